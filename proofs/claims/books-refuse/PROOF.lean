import PyProof.Rows.All
import Wide.All
import OpenK.AllK
import Wide.FinOn
import HandS.ForMost
import HandS.ForExc
import HandS.IsInst
import HandS.ExcInit
import HandS.ExcIs
import HandS.ExcField
import HandS.Deep
import HandS.Style
import HandS.NoneIn
import HandS.Defaults
import HandS.HeadHook1
import HandS.Walk
import HandS.ClsMeth
import PySem.Challenge.RW_netcourt_k92_books_refuse
import HandS.Head0
import HandS.Head1
import HandS.Head2
import HandS.HeadEnd
import HandS.HeadHook2
import KE.KExcIs
import HandS.ExcOwn
import HandS.ExcBuiltin
import KE.DataEq
set_option Elab.async false
set_option linter.all false
set_option maxRecDepth 100000
section
set_option maxHeartbeats 4000000
/-! The text by places, the facts about what the top leaves, the data, the heap's words. -/
namespace Nc
open PySem PySem.Spec PyProof.Rows L2
/-! ### the text by places -/
def top (i : Nat) : Stmt := PySem.Challenge.pw_netcourt_k92_books_refuse.main.body.getD i (.Pass ⟨0, 0, 0, 0⟩)
abbrev sNoPlaceInit : Stmt := inClass (top 9) 0
abbrev sIsName : Stmt := top 17
abbrev sLookName : Stmt := top 18
abbrev sNetInit : Stmt := inClass (top 19) 0
abbrev sNetPlace : Stmt := inClass (top 19) 1
abbrev sNetTie : Stmt := inClass (top 19) 2
abbrev sTieNamed : Stmt := inClass (top 19) 3
abbrev sNumTie : Stmt := inClass (top 19) 4
abbrev sNetCut : Stmt := inClass (top 19) 5
abbrev sNetAlter : Stmt := inClass (top 19) 6
abbrev sPlaces : Stmt := inClass (top 19) 7
abbrev sTies : Stmt := inClass (top 19) 8
abbrev sTwin : Stmt := inClass (top 19) 9
abbrev sWalkEnd : Stmt := top 21
abbrev sComeTo : Stmt := top 28
abbrev sWayPast : Stmt := top 29
abbrev sLookPlain : Stmt := top 46
abbrev sFoundWay : Stmt := top 80
abbrev sLowered : Stmt := top 85
abbrev sSettled : Stmt := top 87
abbrev sFoundRing : Stmt := top 88
abbrev sFindPlain : Stmt := top 92
abbrev sNamesSet : Stmt := top 96
abbrev sNamesTerm : Stmt := top 97
abbrev sFreeNames : Stmt := top 98
abbrev sRefuse : Stmt := top 99
abbrev sLookAtClaim : Stmt := top 100
abbrev sKept : Stmt := top 105
abbrev sLookClaim : Stmt := top 110
abbrev sFindClaim : Stmt := top 114
abbrev sCopied : Stmt := top 116
abbrev sBookInit : Stmt := inClass (top 117) 0
abbrev sAtName : Stmt := inClass (top 117) 1
abbrev sSettle : Stmt := inClass (top 117) 2
abbrev sBkPlace : Stmt := inClass (top 117) 3
abbrev sBkTie : Stmt := inClass (top 117) 4
abbrev sBkCut : Stmt := inClass (top 117) 5
abbrev sBkAlter : Stmt := inClass (top 117) 6
abbrev sBkState : Stmt := inClass (top 117) 7
abbrev sBkForget : Stmt := inClass (top 117) 8
abbrev sBkNet : Stmt := inClass (top 117) 9
abbrev sBkClaims : Stmt := inClass (top 117) 10
abbrev sBkClaim : Stmt := inClass (top 117) 11
abbrev sBkVerdict : Stmt := inClass (top 117) 12
abbrev sBkPaper : Stmt := inClass (top 117) 13
abbrev sAsked : Stmt := top 119
abbrev sClass : Stmt := top 120
abbrev sWrong : Stmt := top 121
abbrev sLook : Stmt := top 122
abbrev sLaw : Stmt := top 123

/-! ### what is refused -/
inductive Er where
  | name | twice | same | width | tie | many | claim | place (s : Str)
  deriving DecidableEq
def Er.cls : Er → Str
  | .name => "NoName" | .twice => "Twice" | .same => "SamePlace" | .width => "NoWidth" | .tie => "NoTie" | .many => "TooMany" | .claim => "NoClaim" | .place _ => "NoPlace"
def Er.word : Er → Str
  | .name => "name" | .twice => "twice" | .same => "same" | .width => "width" | .tie => "tie" | .many => "many" | .claim => "claim" | .place s => ("place " : Str) ++ s
/-- the classes of errors -/
def plainErs : List Str := ["NoName", "Twice", "SamePlace", "NoWidth", "NoTie", "TooMany", "NoClaim"]
def allErs : List Str := ["NoName", "Twice", "SamePlace", "NoWidth", "NoTie", "TooMany", "NoClaim", "NoPlace"]
def askedErs : List Str := ["NoName", "Twice", "SamePlace", "NoWidth", "NoTie", "TooMany", "NoClaim", "NoPlace", "NoText", "NoLine"]

/-! ### what the top leaves -/
abbrev gA (K : PySem.W.Frag) (x : Str) : Addr := He.ga K x
/-- a def of the module -/
def FnE (K : PySem.W.Frag) (mg : Str → Option Value) (x : Str) (st : Stmt) : Prop := ∃ f fd, FunD K x x (defArgs st) (defBody st) (defScope st) [] [] f fd ∧ mg x = some (.ref f)
/-- a method -/
def MtE (K : PySem.W.Frag) (c m q : Str) (st : Stmt) : Prop := ∃ f fd, FunD K m q (defArgs st) (defBody st) (defScope st) [] [] f fd ∧ Meth K (gA K c) m f
/-- an error's class without own __init__ -/
structure ErC (K : PySem.W.Frag) (mg : Str → Option Value) (x : Str) : Prop where
  g : mg x = some (.ref (gA K x))
  ex : PySem.W.excIn K (gA K x) PySem.HandSPX.veTail "ValueError.__new__" = true
  kp : PySem.W.keepIn K (.ref (gA K x)) = true
  sb : PySem.W.subIn K (.ref (gA K x)) (.type "BaseException") = some true
  ty : PySem.W.typeIn K (.ref (gA K x)) = some (.type "type")
/-- what isinstance and a field's read ask of an error's class -/
structure ErX (K : PySem.W.Frag) (x : Str) : Prop where
  ca : ExcC K (gA K x)
  ct : PySem.W.exmOne K (.ref (gA K x)) (.ref (gA K "CourtError")) = some true
  is : ∀ y ∈ askedErs, PySem.W.kitOne K (.ref (gA K x)) (.ref (gA K y)) = some (decide (y = x))
  ve : PySem.W.kitOne K (.ref (gA K x)) (.type "ValueError") = some true
structure Txt (K : PySem.W.Frag) (mg : Str → Option Value) : Prop where
  isName : FnE K mg "is_name" sIsName
  lookName : FnE K mg "look_at_name" sLookName
  walkEnd : FnE K mg "walk_end" sWalkEnd
  comeTo : FnE K mg "come_to" sComeTo
  wayPast : FnE K mg "way_past" sWayPast
  lookPlain : FnE K mg "look_plain" sLookPlain
  foundWay : FnE K mg "found_way" sFoundWay
  lowered : FnE K mg "lowered" sLowered
  settled : FnE K mg "settled" sSettled
  foundRing : FnE K mg "found_ring" sFoundRing
  findPlain : FnE K mg "find_plain" sFindPlain
  namesSet : FnE K mg "names_in_set" sNamesSet
  namesTerm : FnE K mg "names_in_term" sNamesTerm
  freeNames : FnE K mg "free_names" sFreeNames
  refuse : FnE K mg "refuse_strangers" sRefuse
  lookAtClaim : FnE K mg "look_at_claim" sLookAtClaim
  kept : FnE K mg "kept_claim" sKept
  lookClaim : FnE K mg "look_claim" sLookClaim
  findClaim : FnE K mg "find_claim" sFindClaim
  copied : FnE K mg "copied" sCopied
  asked : FnE K mg "_law_asked" sAsked
  lclass : FnE K mg "_law_class" sClass
  wrong : FnE K mg "_law_wrong" sWrong
  look : FnE K mg "_law_look" sLook
  law : FnE K mg "law" sLaw
  nInit : MtE K "Net" "__init__" "Net.__init__" sNetInit
  nPlace : MtE K "Net" "place" "Net.place" sNetPlace
  nTie : MtE K "Net" "tie" "Net.tie" sNetTie
  nNamed : MtE K "Net" "tie_named" "Net.tie_named" sTieNamed
  nNum : MtE K "Net" "number_of_tie" "Net.number_of_tie" sNumTie
  nCut : MtE K "Net" "cut" "Net.cut" sNetCut
  nAlter : MtE K "Net" "alter" "Net.alter" sNetAlter
  nPlaces : MtE K "Net" "places" "Net.places" sPlaces
  nTies : MtE K "Net" "ties" "Net.ties" sTies
  nTwin : MtE K "Net" "twin" "Net.twin" sTwin
  bInit : MtE K "Book" "__init__" "Book.__init__" sBookInit
  bAtName : MtE K "Book" "at_name" "Book.at_name" sAtName
  bSettle : MtE K "Book" "settle" "Book.settle" sSettle
  bPlace : MtE K "Book" "place" "Book.place" sBkPlace
  bTie : MtE K "Book" "tie" "Book.tie" sBkTie
  bCut : MtE K "Book" "cut" "Book.cut" sBkCut
  bAlter : MtE K "Book" "alter" "Book.alter" sBkAlter
  bState : MtE K "Book" "state" "Book.state" sBkState
  bForget : MtE K "Book" "forget" "Book.forget" sBkForget
  bNet : MtE K "Book" "net" "Book.net" sBkNet
  bClaims : MtE K "Book" "claims" "Book.claims" sBkClaims
  bClaim : MtE K "Book" "claim" "Book.claim" sBkClaim
  bVerdict : MtE K "Book" "verdict" "Book.verdict" sBkVerdict
  bPaper : MtE K "Book" "paper" "Book.paper" sBkPaper
  clN : Cls K (gA K "Net")
  mkN : ∀ {f : Addr}, Meth K (gA K "Net") "__init__" f → Mk K (gA K "Net") f
  gN : mg "Net" = some (.ref (gA K "Net"))
  nKn : NoAttr K (gA K "Net") "known"
  nLa : NoAttr K (gA K "Net") "laid"
  clB : Cls K (gA K "Book")
  mkB : ∀ {f : Addr}, Meth K (gA K "Book") "__init__" f → Mk K (gA K "Book") f
  gB : mg "Book" = some (.ref (gA K "Book"))
  bHe : NoAttr K (gA K "Book") "held_net"
  bNa : NoAttr K (gA K "Book") "names"
  bSt : NoAttr K (gA K "Book") "stated"
  erC : ∀ x ∈ plainErs, ErC K mg x
  erX : ∀ x ∈ allErs, ErX K x
  gEr : ∀ x ∈ askedErs, mg x = some (.ref (gA K x))
  gCt : mg "CourtError" = some (.ref (gA K "CourtError"))
  ctR : ClX.CRead K (gA K "CourtError") (.type "type")
  ctV : PySem.W.findCls K (.ref (gA K "CourtError")) (.type "type") "__init__" = some (.val (.builtin "ValueError.__init__"))
  npI : MtE K "NoPlace" "__init__" "NoPlace.__init__" sNoPlaceInit
  npC : OexC K (gA K "NoPlace")
  npN : PySem.W.findIn K (.ref (gA K "NoPlace")) "name" = some none
  npF : XfC K (gA K "NoPlace")
  letters : ∃ t, mg "LETTERS" = some (.str "abcdefghijklmnopqrstuvwxyz" t)
  longest : ∃ t, mg "LONGEST_NAME" = some (.int 12 t)
  mostP : ∃ t, mg "MOST_PLACES" = some (.int 20 t)
  mostT : ∃ t, mg "MOST_TIES" = some (.int 40 t)
  plain : ∃ a, mg "PLAIN" = some (.ref a) ∧ ∀ H, SqT K H a [.str "way", .str "cost", .str "ring", .str "round", .str "must"]
  counted : ∃ a, mg "COUNTED" = some (.ref a) ∧ ∀ H, SqT K H a [.str "flow", .str "apart", .str "bare"]
  len : mg "len" = none
  list : mg "list" = none
  tuple : mg "tuple" = none
  isi : mg "isinstance" = none
  str : mg "str" = none
  int : mg "int" = none
  range : mg "range" = none
  enum : mg "enumerate" = none
  dict : mg "dict" = none
  ve : mg "ValueError" = none

/-! ### a def that keeps a promise, ready to be called -/
section
variable (P : Program) (w : World) (K : PySem.W.Frag) (mg : Str → Option Value) (base : Heap)
structure Rd (k : Nat) (x : Str) (ps : List Str) (sp : Sp) : Prop where
  ex : ∃ f fd, FnOk P w K mg base (L2.CX P w) k f fd ps sp ∧ mg x = some (.ref f) ∧ PySem.W.keepIn K (.ref f) = true ∧ Binds K fd ps []
structure Rm (k : Nat) (c m : Str) (ps : List Str) (sp : Sp) : Prop where
  ex : ∃ f fd, FnOk P w K mg base (L2.CX P w) k f fd ps sp ∧ Meth K (gA K c) m f ∧ Binds K fd ps []
end
/-- how the arguments of a def without defaults bind -/
def BindN (x q : Str) (st : Stmt) (ps : List Str) : Prop := ∀ (kV doc pm : Value) (an : Option Addr) (cdv ct : Value) (us : List Value), us.length = ps.length → bindArgs (PySem.W.fnOf x q (defArgs st) (defBody st) (defScope st) .none kV doc pm an cdv ct) ⟨us, []⟩ = pure (ps.zip us)
section
variable {P : Program} {w : World} {K : PySem.W.Frag} {mg : Str → Option Value} {base : Heap}
theorem rd_mk {x : Str} {st : Stmt} {N ps : List Str} {k : Nat} {sp : Sp} (F : FnE K mg x st) (hb : BindN x x st ps) (S : FnScope N ps (defScope st)) (len : ∀ vs H Q E, sp vs H Q E → vs.length = ps.length)
    (hbody : ∀ (f : Addr) (cdv : Value) (A : Around) (outer : List Env) (s : Shared) (H : Hp) (vs : List V) (Q : VK) (E : XK), Room k (A.deeper (envOfC x (defScope st) s.heap.objs.size f cdv)) → sp vs H Q E →
      ∃ t, PSs (cxOf (L2.CX P w) P w K mg base N x (defScope st) f cdv A outer s H E) (defBody st) t ∧ t { nx := fun _ H' => Q .non H', rt := Q } (start N vs) H) : Rd P w K mg base (k + 1) x ps sp := by
  obtain ⟨f, fd, F, g⟩ := F
  exact ⟨f, fd, F.ok S len (hbody f), g, F.kp, F.bindsN hb⟩
theorem rm_mk {c m q : Str} {st : Stmt} {N ps : List Str} {k : Nat} {sp : Sp} (F : MtE K c m q st) (hb : BindN m q st ps) (S : FnScope N ps (defScope st)) (len : ∀ vs H Q E, sp vs H Q E → vs.length = ps.length)
    (hbody : ∀ (f : Addr) (cdv : Value) (A : Around) (outer : List Env) (s : Shared) (H : Hp) (vs : List V) (Q : VK) (E : XK), Room k (A.deeper (envOfC q (defScope st) s.heap.objs.size f cdv)) → sp vs H Q E →
      ∃ t, PSs (cxOf (L2.CX P w) P w K mg base N q (defScope st) f cdv A outer s H E) (defBody st) t ∧ t { nx := fun _ H' => Q .non H', rt := Q } (start N vs) H) : Rm P w K mg base (k + 1) c m ps sp := by
  obtain ⟨f, fd, F, g⟩ := F
  exact ⟨f, fd, F.ok S len (hbody f), g, F.bindsN hb⟩
theorem Rd.mono {j k : Nat} {x : Str} {ps : List Str} {sp : Sp} (R : Rd P w K mg base j x ps sp) (h : j ≤ k) : Rd P w K mg base k x ps sp := by
  obtain ⟨f, fd, a, b⟩ := R.ex
  exact ⟨f, fd, a.mono h, b⟩
theorem Rm.mono {j k : Nat} {c m : Str} {ps : List Str} {sp : Sp} (R : Rm P w K mg base j c m ps sp) (h : j ≤ k) : Rm P w K mg base k c m ps sp := by
  obtain ⟨f, fd, a, b⟩ := R.ex
  exact ⟨f, fd, a.mono h, b⟩
end

/-! ### how an error lies behind a call -/
def XIs (K : PySem.W.Frag) (e : Er) (cls : Value) (d : Option Addr) (H : Hp) : Prop := cls = .ref (gA K e.cls) ∧ match e with
  | .place s => ∃ dd, d = some dd ∧ H dd = some (.xd [(("name" : Str), .str s)])
  | _ => d = none

/-! ### constants of the module -/
section
variable {X : Cx} {x : Str} {pos : Pos}
theorem pe_gI {i : Int} (hm : ∃ t, X.mg x = some (.int i t)) (hg : Gl X x := by rfl) (hd : (x == ("__debug__" : Str)) = false := by decide) : PE X (.Name x pos) (tC (.int i)) := by
  obtain ⟨t, hm⟩ := hm
  exact pe_glob hg hm ⟨t, rfl⟩ hd
theorem pe_gS {z : Str} (hm : ∃ t, X.mg x = some (.str z t)) (hg : Gl X x := by rfl) (hd : (x == ("__debug__" : Str)) = false := by decide) : PE X (.Name x pos) (tC (.str z)) := by
  obtain ⟨t, hm⟩ := hm
  exact pe_glob hg hm ⟨t, rfl⟩ hd
theorem pe_gR {a : Addr} (hm : X.mg x = some (.ref a)) (hg : Gl X x := by rfl) (hd : (x == ("__debug__" : Str)) = false := by decide) : PE X (.Name x pos) (tC (.ref a)) := pe_glob hg hm rfl hd
end
/-- a test that is decided -/
theorem ifT {b : Bool} {A B : Prop} (e : b = true) (h : A) : if b = true then A else B := by
  rw [if_pos e]
  exact h
theorem ifF {b : Bool} {A B : Prop} (e : b = false) (h : B) : if b = true then A else B := by
  rw [if_neg (by rw [e]; exact Bool.false_ne_true)]
  exact h

/-! ### heaps -/
theorem _root_.L2.Same.new {H : Hp} {p : Addr} {o : HO} (h : H p = none) : Same H (upd H p o) := fun b u e => by
  rw [upd_ne (ne_of_none e h)]
  exact e
theorem _root_.L2.Same.seqT {K : PySem.W.Frag} {H H' : Hp} {a : Addr} {xs : List V} (e : Same H H') (h : SqT K H a xs) : SqT K H' a xs := by
  rcases h with (h | ⟨o, h⟩) | h
  · exact .inl (.inl (e _ _ h))
  · exact .inl (.inr ⟨o, e _ _ h⟩)
  · exact .inr h
/-- all but what stands at ms is as it was -/
def SameBut (ms : List Addr) (H H' : Hp) : Prop := ∀ b o, H b = some o → b ∉ ms → H' b = some o
/-- the heap without ms -/
def hid (ms : List Addr) (H : Hp) : Hp := fun a => if a ∈ ms then none else H a
theorem hid_of {ms : List Addr} {H : Hp} {a : Addr} (h : a ∉ ms) : hid ms H a = H a := if_neg h
theorem hid_same {ms : List Addr} {H : Hp} : Same (hid ms H) H := fun b o e => by
  by_cases h : b ∈ ms
  · unfold hid at e
    rw [if_pos h] at e
    cases e
  · rw [hid_of h] at e
    exact e
theorem SameBut.hid {ms : List Addr} {H H' : Hp} (s : SameBut ms H H') : Same (Nc.hid ms H) (Nc.hid ms H') := fun b o e => by
  by_cases h : b ∈ ms
  · unfold Nc.hid at e
    rw [if_pos h] at e
    cases e
  · rw [hid_of h] at e ⊢
    exact s b o e h
theorem _root_.L2.Same.but {ms : List Addr} {H H' : Hp} (s : Same H H') : SameBut ms H H' := fun b o e _ => s b o e
theorem SameBut.trans {ms : List Addr} {H H1 H2 : Hp} (a : SameBut ms H H1) (b : SameBut ms H1 H2) : SameBut ms H H2 := fun c o e h => b c o (a c o e h) h
theorem SameBut.upd {ms : List Addr} {H H1 : Hp} {p : Addr} {o : HO} (a : SameBut ms H H1) (h : p ∈ ms) : SameBut ms H (L2.upd H1 p o) := fun c u e n => by
  rw [upd_ne (fun q => n (by rw [q]; exact h))]
  exact a c u e n
theorem SameBut.mono {ms ns : List Addr} {H H1 : Hp} (a : SameBut ms H H1) (h : ∀ x, x ∈ ms → x ∈ ns) : SameBut ns H H1 := fun c u e n => a c u e fun q => n (h c q)

end Nc
namespace L2
open PySem PySem.Spec PyProof.Rows
/-! ### data -/
mutual
theorem Dp.same {K : PySem.W.Frag} {H H' : Hp} (s : Same H H') : ∀ (d : PyData) (v : V), Dp K H v d → Dp K H' v d
  | .none, _, h => by
    cases h
    exact .non
  | .bool b, _, h => by
    cases h
    exact .bl b
  | .int i, _, h => by
    cases h
    exact .int i
  | .str x, _, h => by
    cases h
    exact .str x
  | .list ds, _, h => by
    cases h with
    | lst hs ha => exact .lst (s.seq hs) (DpAll.same s ds _ ha)
  | .tuple ds, _, h => by
    cases h with
    | tup hs ha => exact .tup (Same.seqT s hs) (DpAll.same s ds _ ha)
  | .dict _, _, h => by cases h
theorem DpAll.same {K : PySem.W.Frag} {H H' : Hp} (s : Same H H') : ∀ (ds : List PyData) (vs : List V), DpAll K H vs ds → DpAll K H' vs ds
  | [], _, h => by
    cases h
    exact .nil
  | d :: ds, _, h => by
    cases h with
    | cons h1 h2 => exact .cons (Dp.same s d _ h1) (DpAll.same s ds _ h2)
end
theorem DpAll.length {K : PySem.W.Frag} {H : Hp} : ∀ {vs : List V} {ds : List PyData}, DpAll K H vs ds → vs.length = ds.length
  | _, _, .nil => rfl
  | _, _, .cons _ t => congrArg Nat.succ (DpAll.length t)
theorem DpAll.get {K : PySem.W.Frag} {H : Hp} : ∀ {vs : List V} {ds : List PyData} {i : Nat} {d : PyData}, DpAll K H vs ds → ds[i]? = some d → ∃ v, vs[i]? = some v ∧ Dp K H v d
  | _, _, _, _, .nil, e => by simp at e
  | _, _, 0, _, .cons h _, e => by
    have q := Option.some.inj e
    subst q
    exact ⟨_, rfl, h⟩
  | _, _, i + 1, _, .cons _ t, e => DpAll.get (i := i) t e
theorem DpAll.getV {K : PySem.W.Frag} {H : Hp} : ∀ {vs : List V} {ds : List PyData} {i : Nat} {v : V}, DpAll K H vs ds → vs[i]? = some v → ∃ d, ds[i]? = some d ∧ Dp K H v d
  | _, _, _, _, .nil, e => by simp at e
  | _, _, 0, _, .cons h _, e => by
    have q := Option.some.inj e
    subst q
    exact ⟨_, rfl, h⟩
  | _, _, i + 1, _, .cons _ t, e => DpAll.getV (i := i) t e
theorem DpAll.append {K : PySem.W.Frag} {H : Hp} : ∀ {vs ws : List V} {ds es : List PyData}, DpAll K H vs ds → DpAll K H ws es → DpAll K H (vs ++ ws) (ds ++ es)
  | _, _, _, _, .nil, t => t
  | _, _, _, _, .cons h r, t => .cons h (DpAll.append r t)
theorem DpAll.eraseIdx {K : PySem.W.Frag} {H : Hp} : ∀ {vs : List V} {ds : List PyData} (i : Nat), DpAll K H vs ds → DpAll K H (vs.eraseIdx i) (ds.eraseIdx i)
  | _, _, _, .nil => .nil
  | _, _, 0, .cons _ t => t
  | _, _, i + 1, .cons h t => .cons h (DpAll.eraseIdx i t)
theorem DpAll.strs {K : PySem.W.Frag} {H : Hp} : ∀ xs : List Str, DpAll K H (xs.map V.str) (xs.map PyData.str)
  | [] => .nil
  | x :: xs => .cons (.str x) (DpAll.strs xs)
theorem DpAll.strs_inv {K : PySem.W.Frag} {H : Hp} : ∀ {xs : List Str} {vs : List V}, DpAll K H vs (xs.map PyData.str) → vs = xs.map V.str
  | [], _, h => by
    cases h
    rfl
  | x :: xs, _, h => by
    cases h with
    | cons h1 h2 =>
      cases h1
      rw [DpAll.strs_inv h2]
      rfl

end L2
namespace Nc
open PySem PySem.Spec PyProof.Rows L2
/-! ### ties, nets -/
structure Tie where
  name : Str
  a : Str
  b : Str
  w : Int
  c : Int
  deriving DecidableEq
def Tie.vs (t : Tie) : List V := [.str t.name, .str t.a, .str t.b, .int t.w, .int t.c]
def Tie.d (t : Tie) : PyData := .tuple [.str t.name, .str t.a, .str t.b, .int t.w, .int t.c]
theorem Tie.of {K : PySem.W.Frag} {H : Hp} {v : V} {t : Tie} (h : Dp K H v t.d) : ∃ p, v = .ref p ∧ SqT K H p t.vs := by
  obtain ⟨n, a, b, w, c⟩ := t
  cases h with
  | @tup p xs _ hs ha =>
    cases ha with
    | cons h1 ha => cases ha with
      | cons h2 ha => cases ha with
        | cons h3 ha => cases ha with
          | cons h4 ha => cases ha with
            | cons h5 ha =>
              cases ha
              cases h1
              cases h2
              cases h3
              cases h4
              cases h5
              exact ⟨p, rfl, hs⟩
theorem Tie.mk_dp {K : PySem.W.Frag} {H : Hp} {p : Addr} {t : Tie} (h : SqT K H p t.vs) : Dp K H (.ref p) t.d := .tup h (.cons (.str _) (.cons (.str _) (.cons (.str _) (.cons (.int _) (.cons (.int _) .nil)))))
/-- the attributes of a net, of a book -/
def nF (k l : Addr) : List (Str × V) := [("known", .ref k), ("laid", .ref l)]
def bF (n nm st : Addr) : List (Str × V) := [("held_net", .ref n), ("names", .ref nm), ("stated", .ref st)]
theorem nF_known (k l : Addr) : (nF k l).lookup ("known" : Str) = some (.ref k) := by
  unfold nF
  rw [lookup_put, if_pos rfl]
theorem nF_laid (k l : Addr) : (nF k l).lookup ("laid" : Str) = some (.ref l) := by
  unfold nF
  rw [lookup_put, if_neg (by decide +kernel), lookup_put, if_pos rfl]
theorem nF_no (k l : Addr) {m : Str} (h1 : ¬ m = "known") (h2 : ¬ m = "laid") : (nF k l).lookup m = none := by
  unfold nF
  rw [lookup_put, if_neg h1, lookup_put, if_neg h2]
  rfl
theorem bF_held (n nm st : Addr) : (bF n nm st).lookup ("held_net" : Str) = some (.ref n) := by
  unfold bF
  rw [lookup_put, if_pos rfl]
theorem bF_names (n nm st : Addr) : (bF n nm st).lookup ("names" : Str) = some (.ref nm) := by
  unfold bF
  rw [lookup_put, if_neg (by decide +kernel), lookup_put, if_pos rfl]
theorem bF_stated (n nm st : Addr) : (bF n nm st).lookup ("stated" : Str) = some (.ref st) := by
  unfold bF
  rw [lookup_put, if_neg (by decide +kernel), lookup_put, if_neg (by decide +kernel), lookup_put, if_pos rfl]
theorem bF_no (n nm st : Addr) {m : Str} (h1 : ¬ m = "held_net") (h2 : ¬ m = "names") (h3 : ¬ m = "stated") : (bF n nm st).lookup m = none := by
  unfold bF
  rw [lookup_put, if_neg h1, lookup_put, if_neg h2, lookup_put, if_neg h3]
  rfl
end Nc
end

section
set_option maxHeartbeats 0
/-! The head: the top run in the kernel, the facts it leaves, by names. -/
namespace NcHd
open PySem PySem.Spec PyProof.Rows L2 Nc
def fnL : List He.DefD := [⟨("is_name", none), "is_name", "is_name", defArgs sIsName, defBody sIsName, defScope sIsName, [], []⟩,
  ⟨("look_at_name", none), "look_at_name", "look_at_name", defArgs sLookName, defBody sLookName, defScope sLookName, [], []⟩,
  ⟨("walk_end", none), "walk_end", "walk_end", defArgs sWalkEnd, defBody sWalkEnd, defScope sWalkEnd, [], []⟩,
  ⟨("come_to", none), "come_to", "come_to", defArgs sComeTo, defBody sComeTo, defScope sComeTo, [], []⟩,
  ⟨("way_past", none), "way_past", "way_past", defArgs sWayPast, defBody sWayPast, defScope sWayPast, [], []⟩,
  ⟨("look_plain", none), "look_plain", "look_plain", defArgs sLookPlain, defBody sLookPlain, defScope sLookPlain, [], []⟩,
  ⟨("found_way", none), "found_way", "found_way", defArgs sFoundWay, defBody sFoundWay, defScope sFoundWay, [], []⟩,
  ⟨("lowered", none), "lowered", "lowered", defArgs sLowered, defBody sLowered, defScope sLowered, [], []⟩,
  ⟨("settled", none), "settled", "settled", defArgs sSettled, defBody sSettled, defScope sSettled, [], []⟩,
  ⟨("found_ring", none), "found_ring", "found_ring", defArgs sFoundRing, defBody sFoundRing, defScope sFoundRing, [], []⟩,
  ⟨("find_plain", none), "find_plain", "find_plain", defArgs sFindPlain, defBody sFindPlain, defScope sFindPlain, [], []⟩,
  ⟨("names_in_set", none), "names_in_set", "names_in_set", defArgs sNamesSet, defBody sNamesSet, defScope sNamesSet, [], []⟩,
  ⟨("names_in_term", none), "names_in_term", "names_in_term", defArgs sNamesTerm, defBody sNamesTerm, defScope sNamesTerm, [], []⟩,
  ⟨("free_names", none), "free_names", "free_names", defArgs sFreeNames, defBody sFreeNames, defScope sFreeNames, [], []⟩,
  ⟨("refuse_strangers", none), "refuse_strangers", "refuse_strangers", defArgs sRefuse, defBody sRefuse, defScope sRefuse, [], []⟩,
  ⟨("look_at_claim", none), "look_at_claim", "look_at_claim", defArgs sLookAtClaim, defBody sLookAtClaim, defScope sLookAtClaim, [], []⟩,
  ⟨("kept_claim", none), "kept_claim", "kept_claim", defArgs sKept, defBody sKept, defScope sKept, [], []⟩,
  ⟨("look_claim", none), "look_claim", "look_claim", defArgs sLookClaim, defBody sLookClaim, defScope sLookClaim, [], []⟩,
  ⟨("find_claim", none), "find_claim", "find_claim", defArgs sFindClaim, defBody sFindClaim, defScope sFindClaim, [], []⟩,
  ⟨("copied", none), "copied", "copied", defArgs sCopied, defBody sCopied, defScope sCopied, [], []⟩,
  ⟨("_law_asked", none), "_law_asked", "_law_asked", defArgs sAsked, defBody sAsked, defScope sAsked, [], []⟩,
  ⟨("_law_class", none), "_law_class", "_law_class", defArgs sClass, defBody sClass, defScope sClass, [], []⟩,
  ⟨("_law_wrong", none), "_law_wrong", "_law_wrong", defArgs sWrong, defBody sWrong, defScope sWrong, [], []⟩,
  ⟨("_law_look", none), "_law_look", "_law_look", defArgs sLook, defBody sLook, defScope sLook, [], []⟩,
  ⟨("law", none), "law", "law", defArgs sLaw, defBody sLaw, defScope sLaw, [], []⟩,
  ⟨("Net", some "__init__"), "__init__", "Net.__init__", defArgs sNetInit, defBody sNetInit, defScope sNetInit, [], []⟩,
  ⟨("Net", some "place"), "place", "Net.place", defArgs sNetPlace, defBody sNetPlace, defScope sNetPlace, [], []⟩,
  ⟨("Net", some "tie"), "tie", "Net.tie", defArgs sNetTie, defBody sNetTie, defScope sNetTie, [], []⟩,
  ⟨("Net", some "tie_named"), "tie_named", "Net.tie_named", defArgs sTieNamed, defBody sTieNamed, defScope sTieNamed, [], []⟩,
  ⟨("Net", some "number_of_tie"), "number_of_tie", "Net.number_of_tie", defArgs sNumTie, defBody sNumTie, defScope sNumTie, [], []⟩,
  ⟨("Net", some "cut"), "cut", "Net.cut", defArgs sNetCut, defBody sNetCut, defScope sNetCut, [], []⟩,
  ⟨("Net", some "alter"), "alter", "Net.alter", defArgs sNetAlter, defBody sNetAlter, defScope sNetAlter, [], []⟩,
  ⟨("Net", some "places"), "places", "Net.places", defArgs sPlaces, defBody sPlaces, defScope sPlaces, [], []⟩,
  ⟨("Net", some "ties"), "ties", "Net.ties", defArgs sTies, defBody sTies, defScope sTies, [], []⟩,
  ⟨("Net", some "twin"), "twin", "Net.twin", defArgs sTwin, defBody sTwin, defScope sTwin, [], []⟩,
  ⟨("Book", some "__init__"), "__init__", "Book.__init__", defArgs sBookInit, defBody sBookInit, defScope sBookInit, [], []⟩,
  ⟨("Book", some "at_name"), "at_name", "Book.at_name", defArgs sAtName, defBody sAtName, defScope sAtName, [], []⟩,
  ⟨("Book", some "settle"), "settle", "Book.settle", defArgs sSettle, defBody sSettle, defScope sSettle, [], []⟩,
  ⟨("Book", some "place"), "place", "Book.place", defArgs sBkPlace, defBody sBkPlace, defScope sBkPlace, [], []⟩,
  ⟨("Book", some "tie"), "tie", "Book.tie", defArgs sBkTie, defBody sBkTie, defScope sBkTie, [], []⟩,
  ⟨("Book", some "cut"), "cut", "Book.cut", defArgs sBkCut, defBody sBkCut, defScope sBkCut, [], []⟩,
  ⟨("Book", some "alter"), "alter", "Book.alter", defArgs sBkAlter, defBody sBkAlter, defScope sBkAlter, [], []⟩,
  ⟨("Book", some "state"), "state", "Book.state", defArgs sBkState, defBody sBkState, defScope sBkState, [], []⟩,
  ⟨("Book", some "forget"), "forget", "Book.forget", defArgs sBkForget, defBody sBkForget, defScope sBkForget, [], []⟩,
  ⟨("Book", some "net"), "net", "Book.net", defArgs sBkNet, defBody sBkNet, defScope sBkNet, [], []⟩,
  ⟨("Book", some "claims"), "claims", "Book.claims", defArgs sBkClaims, defBody sBkClaims, defScope sBkClaims, [], []⟩,
  ⟨("Book", some "claim"), "claim", "Book.claim", defArgs sBkClaim, defBody sBkClaim, defScope sBkClaim, [], []⟩,
  ⟨("Book", some "verdict"), "verdict", "Book.verdict", defArgs sBkVerdict, defBody sBkVerdict, defScope sBkVerdict, [], []⟩,
  ⟨("Book", some "paper"), "paper", "Book.paper", defArgs sBkPaper, defBody sBkPaper, defScope sBkPaper, [], []⟩,
  ⟨("NoPlace", some "__init__"), "__init__", "NoPlace.__init__", defArgs sNoPlaceInit, defBody sNoPlaceInit, defScope sNoPlaceInit, [], []⟩]
def faL : List He.Fa := [.glo "is_name", .glo "look_at_name", .glo "walk_end", .glo "come_to", .glo "way_past", .glo "look_plain", .glo "found_way", .glo "lowered", .glo "settled", .glo "found_ring", .glo "find_plain", .glo "names_in_set", .glo "names_in_term", .glo "free_names", .glo "refuse_strangers", .glo "look_at_claim", .glo "kept_claim", .glo "look_claim", .glo "find_claim", .glo "copied", .glo "_law_asked", .glo "_law_class", .glo "_law_wrong", .glo "_law_look", .glo "law", .glo "CourtError", .glo "NoName", .glo "Twice", .glo "SamePlace", .glo "NoWidth", .glo "NoTie", .glo "TooMany", .glo "NoClaim", .glo "NoPlace", .glo "NoText", .glo "NoLine", .glo "Net", .glo "Book", .meth "Net" "__init__", .meth "Net" "place", .meth "Net" "tie", .meth "Net" "tie_named", .meth "Net" "number_of_tie", .meth "Net" "cut", .meth "Net" "alter", .meth "Net" "places", .meth "Net" "ties", .meth "Net" "twin", .meth "Book" "__init__", .meth "Book" "at_name", .meth "Book" "settle", .meth "Book" "place", .meth "Book" "tie", .meth "Book" "cut", .meth "Book" "alter", .meth "Book" "state", .meth "Book" "forget", .meth "Book" "net", .meth "Book" "claims", .meth "Book" "claim", .meth "Book" "verdict", .meth "Book" "paper", .meth "NoPlace" "__init__", .cls "Net", .cls "Book", .mkr "Net", .mkr "Book", .noat "Net" "known", .noat "Net" "laid", .noat "Book" "held_net", .noat "Book" "names", .noat "Book" "stated", .str "LETTERS" "abcdefghijklmnopqrstuvwxyz", .int "LONGEST_NAME" 12, .int "MOST_PLACES" 20, .int "MOST_TIES" 40, .free "len", .free "list", .free "tuple", .free "isinstance", .free "str", .free "int", .free "range", .free "enumerate", .free "dict", .free "ValueError", .glo "PLAIN", .glo "COUNTED"]
/-! ### the errors' classes -/
def erCB (K : PySem.W.Frag) (x : Str) : Bool := PySem.W.excIn K (gA K x) PySem.HandSPX.veTail "ValueError.__new__" && (PySem.W.keepIn K (.ref (gA K x)) && (decide (PySem.W.subIn K (.ref (gA K x)) (.type "BaseException") = some true) && decide (PySem.W.typeIn K (.ref (gA K x)) = some (.type "type"))))
def exCB (K : PySem.W.Frag) (D : Addr) : Bool := decide (PySem.W.findIn K (.ref D) "__getattribute__" = some (some (.builtin "BaseException.__getattribute__"))) && (decide (PySem.W.findIn K (.ref D) "__getattr__" = some none) && (decide (PySem.W.subIn K (.ref D) (.type "BaseException") = some true) &&
  (PySem.W.hasDictIn K D && (decide (PySem.W.findIn K (.ref D) "__class__" = some (some (.builtin "object.__class__"))) && (decide (PySem.W.specialIn K (.builtin "object.__class__") "__get__" = some (some (.builtin "getset_descriptor.__get__"))) &&
  (decide (PySem.W.takesIn K (.builtin "object.__class__") = some true) && decide (PySem.W.mroIn K D (.type "object") = some true)))))))
theorem exCB_ok {K : PySem.W.Frag} {D : Addr} (h : exCB K D = true) : ExcC K D := by
  obtain ⟨h1, h⟩ := He.ba h
  obtain ⟨h2, h⟩ := He.ba h
  obtain ⟨h3, h⟩ := He.ba h
  obtain ⟨h4, h⟩ := He.ba h
  obtain ⟨h5, h⟩ := He.ba h
  obtain ⟨h6, h⟩ := He.ba h
  obtain ⟨h7, h8⟩ := He.ba h
  exact ⟨of_decide_eq_true h1, of_decide_eq_true h2, of_decide_eq_true h3, h4, of_decide_eq_true h5, of_decide_eq_true h6, of_decide_eq_true h7, of_decide_eq_true h8⟩
def erXB (K : PySem.W.Frag) (x : Str) : Bool := exCB K (gA K x) && (decide (PySem.W.exmOne K (.ref (gA K x)) (.ref (gA K "CourtError")) = some true) &&
  (askedErs.all (fun y => decide (PySem.W.kitOne K (.ref (gA K x)) (.ref (gA K y)) = some (decide (y = x)))) && decide (PySem.W.kitOne K (.ref (gA K x)) (.type "ValueError") = some true)))
def oexB (K : PySem.W.Frag) (C : Addr) : Bool := match K.lookup C with
  | some ⟨.type "type", _, .cls cd, sl⟩ => (match cd.mro, sl.toList with
    | .ref C' :: bm, [_, _, _, _, some (.builtin n), _] => C' == C && (n == "ValueError.__new__" && (!cd.hasDel && (cd.hasDict && PySem.HandSPX.refsVE bm)))
    | _, _ => false)
  | _ => false
theorem oexB_ok {K : PySem.W.Frag} {C : Addr} (q : oexB K C = true) : ∃ nm q N bs bm sn sub ab col dd k0 k1 k2 k3 k5, K.lookup C = some (excClassObj nm q C N bs bm true sn sub ab col dd k0 k1 k2 k3 k5 "ValueError.__new__") ∧ PySem.HandSPX.refsVE bm = true := by
  unfold oexB at q
  split at q
  · rename_i dd cd sl ho
    split at q
    · rename_i C' bm k0 k1 k2 k3 n k5 hm hs
      obtain ⟨q1, q⟩ := He.ba q
      obtain ⟨q2, q⟩ := He.ba q
      obtain ⟨q3, q⟩ := He.ba q
      obtain ⟨q4, q5⟩ := He.ba q
      obtain rfl := beq_iff_eq.mp q1
      obtain rfl := beq_iff_eq.mp q2
      obtain ⟨nm, bs, mro, ns, qn, hd, sn, sub, ab, col, del⟩ := cd
      dsimp only at hm q3 q4
      have q3' : del = false := by simpa using q3
      subst hm q3' q4
      have hsl : sl = #[k0, k1, k2, k3, some (.builtin "ValueError.__new__"), k5] := by
        obtain ⟨l⟩ := sl
        simp only at hs
        rw [hs]
      subst hsl
      exact ⟨nm, qn, ns, bs, bm, sn, sub, ab, col, dd, k0, k1, k2, k3, k5, ho, q5⟩
    · cases q
  · cases q
def ctB (K : PySem.W.Frag) : Bool := PySem.W.readsIn K (gA K "CourtError") (.type "type") && (decide (PySem.W.specialIn K (.ref (gA K "CourtError")) "__getattribute__" = some (some (.builtin "type.__getattribute__"))) &&
  (match PySem.W.findCls K (.ref (gA K "CourtError")) (.type "type") "__init__" with
    | some (.val (.builtin n)) => decide (n = "ValueError.__init__")
    | _ => false))
theorem ctB_ok {K : PySem.W.Frag} (h : ctB K = true) : ClX.CRead K (gA K "CourtError") (.type "type") ∧ PySem.W.findCls K (.ref (gA K "CourtError")) (.type "type") "__init__" = some (.val (.builtin "ValueError.__init__")) := by
  obtain ⟨h1, h⟩ := He.ba h
  obtain ⟨h2, h3⟩ := He.ba h
  refine ⟨⟨h1, of_decide_eq_true h2⟩, ?_⟩
  split at h3
  · rename_i n e
    rw [e, of_decide_eq_true h3]
  · cases h3
def npB (K : PySem.W.Frag) : Bool := oexB K (gA K "NoPlace") && (decide (PySem.W.findIn K (.ref (gA K "NoPlace")) "__setattr__" = some (some (.builtin "object.__setattr__"))) && (decide (PySem.W.subIn K (.ref (gA K "NoPlace")) (.type "BaseException") = some true) &&
  (decide (PySem.W.typeIn K (.ref (gA K "NoPlace")) = some (.type "type")) && (PySem.W.keepIn K (.ref (gA K "NoPlace")) && (decide (PySem.W.findIn K (.ref (gA K "NoPlace")) "name" = some none) && xfB K (gA K "NoPlace"))))))
theorem npB_ok {K : PySem.W.Frag} (h : npB K = true) : OexC K (gA K "NoPlace") ∧ PySem.W.findIn K (.ref (gA K "NoPlace")) "name" = some none ∧ XfC K (gA K "NoPlace") := by
  obtain ⟨h1, h⟩ := He.ba h
  obtain ⟨h2, h⟩ := He.ba h
  obtain ⟨h3, h⟩ := He.ba h
  obtain ⟨h4, h⟩ := He.ba h
  obtain ⟨h5, h⟩ := He.ba h
  obtain ⟨h6, h7⟩ := He.ba h
  exact ⟨⟨oexB_ok h1, of_decide_eq_true h2, of_decide_eq_true h3, of_decide_eq_true h4, h5⟩, of_decide_eq_true h6, xfB_ok h7⟩
def exB (K : PySem.W.Frag) : Bool := plainErs.all (erCB K) && (allErs.all (erXB K) && (ctB K && (npB K && (He.tupB K "PLAIN" [.str "way", .str "cost", .str "ring", .str "round", .str "must"] && He.tupB K "COUNTED" [.str "flow", .str "apart", .str "bare"]))))
/-! ### the Hook -/
/-- the addresses that are looked at: by the names, then a code, a class's own names, their values, their codes -/
def refsN (o : Obj) : List Addr := match o.data with
  | .func fd => He.refV fd.code
  | .cls cd => [cd.ns]
  | .dict es _ => es.toList.flatMap fun e => He.refV e.val
  | _ => []
def growN (g : Addr → Option Obj) (as : List Addr) : List Addr := as.flatMap fun a => match g a with
  | some o => refsN o
  | none => []
def namesN1 : List Str := ["is_name", "look_at_name", "walk_end", "come_to", "way_past", "look_plain", "found_way", "lowered", "settled", "found_ring", "find_plain", "names_in_set", "names_in_term", "free_names", "refuse_strangers", "look_at_claim", "kept_claim", "look_claim", "find_claim", "copied", "_law_asked", "_law_class", "_law_wrong", "_law_look", "law"]
def namesN2 : List Str := ["CourtError", "NoName", "Twice", "SamePlace", "NoWidth", "NoTie", "TooMany", "NoClaim", "NoPlace", "NoText", "NoLine", "Net", "Book", "PLAIN", "COUNTED"]
def namesN : List Str := namesN1 ++ namesN2
def as1 (g : Addr → Option Obj) : List Addr := namesN.map (He.ga (He.frG g [mainGlobals]))
def as2 (g : Addr → Option Obj) : List Addr := growN g (as1 g)
def as3 (g : Addr → Option Obj) : List Addr := growN g (as2 g)
def as4 (g : Addr → Option Obj) : List Addr := growN g (as3 g)
def asN (g : Addr → Option Obj) : List Addr := mainGlobals :: PySem.cStatics :: (as1 g ++ (as2 g ++ (as3 g ++ as4 g)))
def obsN (g : Addr → Option Obj) : He.AlD × Bool := (fun K => (He.obsD faL fnL K, exB K)) (He.frG g (asN g))
def Says (K : PySem.W.Frag) : Prop := (He.obsD faL fnL K, exB K) = (He.valD fnL, true)
def hookN : PySem.W.Hook where
  α := He.AlD × Bool
  obs := fun s => obsN s.heap.get?
  val := fun _ => (He.valD fnL, true)
  says := fun _ h => ∃ K : PySem.W.Frag, K.In h ∧ Says K
  of := fun _ _ e => ⟨_, He.frG_in, e⟩
  keeps := fun _ _ _ ⟨K, hK, c⟩ k => ⟨K, PySem.W.Frag.In.keeps hK k, c⟩
theorem obsN_eq {g : Addr → Option Obj} {s : Shared} (h : ∀ a, g a = s.heap.get? a) : obsN g = hookN.obs s := by
  have e : g = s.heap.get? := funext h
  rw [e] <;> rfl
abbrev R : PySem.W.OpenRow := PySem.W.OpenLaw.row PySem.Challenge.rw_netcourt_k92_books_refuse
abbrev hk : PySem.W.Hook := hookN
def ob (s : PySem.W.SharedT) : He.AlD × Bool := obsN (HandSHeadRun.getT s)
theorem ob_eq (s : PySem.W.SharedT) : ob s = hk.obs s.abs := obsN_eq (HandSHeadRun.getT_eq s)
def names0 : List PySem.Str := ["CourtError", "NoName", "Twice", "SamePlace", "NoWidth", "NoTie", "TooMany", "NoText", "NoPlace", "NoClaim", "NoLine", "LETTERS", "LONGEST_NAME", "MOST_PLACES", "MOST_TIES", "is_name", "look_at_name", "Net", "walk_end", "walk_cost", "place_list", "is_closed", "is_within", "is_member", "come_to", "way_past", "members_of", "within_paper", "member_paper", "is_whole"]
def names1 : List PySem.Str := ["price_list", "no_tie_leaves", "stretches_end", "is_cheap", "prices_hold", "is_dear", "is_ring", "is_priced", "is_order", "shuts_off", "goes_past", "look_plain", "is_row", "leaving", "shown_size", "tie_rows", "shown_flow", "apart_walks", "shown_bare", "shown_stops", "shown_pairs", "shown_cover", "shown_between", "shown_both", "shown_either", "shown_joined", "shown_bound", "reached", "ties_back", "greatest_flow"]
def names2 : List PySem.Str := ["unit_walks", "flow_ties", "bare_ties", "pair_ties", "solved", "walk_names", "below_paper", "above_paper", "value_of", "joined_paper", "bound_paper", "found_way", "found_must", "tie_into", "ring_among", "found_round", "lowered", "ring_behind", "settled", "found_ring", "stretches_for", "way_by", "found_cost", "find_plain", "PLAIN", "COUNTED", "names_in_set", "names_in_term", "free_names", "refuse_strangers"]
def names3 : List PySem.Str := ["look_at_claim", "put_name", "put_in_set", "put_in_term", "put_in", "kept_claim", "look_atmost", "look_each", "look_one", "look_joined", "look_claim", "find_atmost", "find_joined", "find_places", "find_claim", "copied", "Book", "_law_asked", "_law_class", "_law_wrong", "_law_look"]
def names : List PySem.Str := names0 ++ names1 ++ names2 ++ names3
/-! ### the facts -/
section
variable {K : PySem.W.Frag} {h : Heap} {mg : Str → Option Value}
theorem fnE_of {x : Str} {st : Stmt} {i j : Nat} (c : He.SaysD faL fnL K) (X : K.In h) (G : h.Ns mainGlobals mg) (hi : fnL[i]? = some ⟨(x, none), x, x, defArgs st, defBody st, defScope st, [], []⟩) (hj : faL[j]? = some (.glo x)) : FnE K mg x st := by
  obtain ⟨fd, F⟩ := c.def_ i hi
  exact ⟨_, fd, F, He.glo_ok X G (c.fact j hj)⟩
theorem mtE_of {cl m q : Str} {st : Stmt} {i j : Nat} (c : He.SaysD faL fnL K) (hi : fnL[i]? = some ⟨(cl, some m), m, q, defArgs st, defBody st, defScope st, [], []⟩) (hj : faL[j]? = some (.meth cl m)) : MtE K cl m q st := by
  obtain ⟨fd, F⟩ := c.def_ i hi
  exact ⟨_, fd, F, He.meth_ok (c.fact j hj)⟩
theorem mk_of {cl : Str} {j : Nat} (c : He.SaysD faL fnL K) (hj : faL[j]? = some (.mkr cl)) {f : Addr} (M : Meth K (gA K cl) "__init__" f) : Mk K (gA K cl) f := by
  have q := He.mkr_ok (c.fact j hj)
  have e : He.ma K (He.ga K cl) "__init__" = f := by
    have z := q.2.symm.trans M.1
    injection z with z
    injection z with z
    injection z
  rw [← e]
  exact q
theorem txt_of (s : Says K) (X : K.In h) (G : h.Ns mainGlobals mg) : Txt K mg := by
  have c : He.SaysD faL fnL K := congrArg (fun z : He.AlD × Bool => z.1) s
  have b : exB K = true := congrArg (fun z : He.AlD × Bool => z.2) s
  obtain ⟨b1, b⟩ := He.ba b
  obtain ⟨b2, b⟩ := He.ba b
  obtain ⟨b3, b⟩ := He.ba b
  obtain ⟨b4, b⟩ := He.ba b
  obtain ⟨b5, b6⟩ := He.ba b
  obtain ⟨r1, r2⟩ := ctB_ok b3
  obtain ⟨n1, n2, n3⟩ := npB_ok b4
  exact {
    isName := fnE_of (i := 0) (j := 0) c X G rfl rfl
    lookName := fnE_of (i := 1) (j := 1) c X G rfl rfl
    walkEnd := fnE_of (i := 2) (j := 2) c X G rfl rfl
    comeTo := fnE_of (i := 3) (j := 3) c X G rfl rfl
    wayPast := fnE_of (i := 4) (j := 4) c X G rfl rfl
    lookPlain := fnE_of (i := 5) (j := 5) c X G rfl rfl
    foundWay := fnE_of (i := 6) (j := 6) c X G rfl rfl
    lowered := fnE_of (i := 7) (j := 7) c X G rfl rfl
    settled := fnE_of (i := 8) (j := 8) c X G rfl rfl
    foundRing := fnE_of (i := 9) (j := 9) c X G rfl rfl
    findPlain := fnE_of (i := 10) (j := 10) c X G rfl rfl
    namesSet := fnE_of (i := 11) (j := 11) c X G rfl rfl
    namesTerm := fnE_of (i := 12) (j := 12) c X G rfl rfl
    freeNames := fnE_of (i := 13) (j := 13) c X G rfl rfl
    refuse := fnE_of (i := 14) (j := 14) c X G rfl rfl
    lookAtClaim := fnE_of (i := 15) (j := 15) c X G rfl rfl
    kept := fnE_of (i := 16) (j := 16) c X G rfl rfl
    lookClaim := fnE_of (i := 17) (j := 17) c X G rfl rfl
    findClaim := fnE_of (i := 18) (j := 18) c X G rfl rfl
    copied := fnE_of (i := 19) (j := 19) c X G rfl rfl
    asked := fnE_of (i := 20) (j := 20) c X G rfl rfl
    lclass := fnE_of (i := 21) (j := 21) c X G rfl rfl
    wrong := fnE_of (i := 22) (j := 22) c X G rfl rfl
    look := fnE_of (i := 23) (j := 23) c X G rfl rfl
    law := fnE_of (i := 24) (j := 24) c X G rfl rfl
    nInit := mtE_of (i := 25) (j := 38) c rfl rfl
    nPlace := mtE_of (i := 26) (j := 39) c rfl rfl
    nTie := mtE_of (i := 27) (j := 40) c rfl rfl
    nNamed := mtE_of (i := 28) (j := 41) c rfl rfl
    nNum := mtE_of (i := 29) (j := 42) c rfl rfl
    nCut := mtE_of (i := 30) (j := 43) c rfl rfl
    nAlter := mtE_of (i := 31) (j := 44) c rfl rfl
    nPlaces := mtE_of (i := 32) (j := 45) c rfl rfl
    nTies := mtE_of (i := 33) (j := 46) c rfl rfl
    nTwin := mtE_of (i := 34) (j := 47) c rfl rfl
    bInit := mtE_of (i := 35) (j := 48) c rfl rfl
    bAtName := mtE_of (i := 36) (j := 49) c rfl rfl
    bSettle := mtE_of (i := 37) (j := 50) c rfl rfl
    bPlace := mtE_of (i := 38) (j := 51) c rfl rfl
    bTie := mtE_of (i := 39) (j := 52) c rfl rfl
    bCut := mtE_of (i := 40) (j := 53) c rfl rfl
    bAlter := mtE_of (i := 41) (j := 54) c rfl rfl
    bState := mtE_of (i := 42) (j := 55) c rfl rfl
    bForget := mtE_of (i := 43) (j := 56) c rfl rfl
    bNet := mtE_of (i := 44) (j := 57) c rfl rfl
    bClaims := mtE_of (i := 45) (j := 58) c rfl rfl
    bClaim := mtE_of (i := 46) (j := 59) c rfl rfl
    bVerdict := mtE_of (i := 47) (j := 60) c rfl rfl
    bPaper := mtE_of (i := 48) (j := 61) c rfl rfl
    npI := mtE_of (i := 49) (j := 62) c rfl rfl
    clN := He.cls_ok (c.fact 63 (f := .cls "Net"))
    mkN := fun M => mk_of (j := 65) c rfl M
    gN := He.glo_ok X G (c.fact 36 (f := .glo "Net"))
    nKn := He.noat_ok (c.fact 67 (f := .noat "Net" "known"))
    nLa := He.noat_ok (c.fact 68 (f := .noat "Net" "laid"))
    clB := He.cls_ok (c.fact 64 (f := .cls "Book"))
    mkB := fun M => mk_of (j := 66) c rfl M
    gB := He.glo_ok X G (c.fact 37 (f := .glo "Book"))
    bHe := He.noat_ok (c.fact 69 (f := .noat "Book" "held_net"))
    bNa := He.noat_ok (c.fact 70 (f := .noat "Book" "names"))
    bSt := He.noat_ok (c.fact 71 (f := .noat "Book" "stated"))
    erC := fun x hx => by
      have g : mg x = some (.ref (gA K x)) := by
        simp only [plainErs, List.mem_cons, List.not_mem_nil, or_false] at hx
        rcases hx with rfl | rfl | rfl | rfl | rfl | rfl | rfl
        · exact He.glo_ok X G (c.fact 26 (f := .glo "NoName"))
        · exact He.glo_ok X G (c.fact 27 (f := .glo "Twice"))
        · exact He.glo_ok X G (c.fact 28 (f := .glo "SamePlace"))
        · exact He.glo_ok X G (c.fact 29 (f := .glo "NoWidth"))
        · exact He.glo_ok X G (c.fact 30 (f := .glo "NoTie"))
        · exact He.glo_ok X G (c.fact 31 (f := .glo "TooMany"))
        · exact He.glo_ok X G (c.fact 32 (f := .glo "NoClaim"))
      have q := List.all_eq_true.mp b1 x hx
      obtain ⟨q1, q⟩ := He.ba q
      obtain ⟨q2, q⟩ := He.ba q
      obtain ⟨q3, q4⟩ := He.ba q
      exact ⟨g, q1, q2, of_decide_eq_true q3, of_decide_eq_true q4⟩
    erX := fun x hx => by
      have q := List.all_eq_true.mp b2 x hx
      obtain ⟨q1, q⟩ := He.ba q
      obtain ⟨q2, q⟩ := He.ba q
      obtain ⟨q3, q4⟩ := He.ba q
      exact ⟨exCB_ok q1, of_decide_eq_true q2, fun y hy => of_decide_eq_true (List.all_eq_true.mp q3 y hy), of_decide_eq_true q4⟩
    gEr := fun x hx => by
      simp only [askedErs, List.mem_cons, List.not_mem_nil, or_false] at hx
      rcases hx with rfl | rfl | rfl | rfl | rfl | rfl | rfl | rfl | rfl | rfl
      · exact He.glo_ok X G (c.fact 26 (f := .glo "NoName"))
      · exact He.glo_ok X G (c.fact 27 (f := .glo "Twice"))
      · exact He.glo_ok X G (c.fact 28 (f := .glo "SamePlace"))
      · exact He.glo_ok X G (c.fact 29 (f := .glo "NoWidth"))
      · exact He.glo_ok X G (c.fact 30 (f := .glo "NoTie"))
      · exact He.glo_ok X G (c.fact 31 (f := .glo "TooMany"))
      · exact He.glo_ok X G (c.fact 32 (f := .glo "NoClaim"))
      · exact He.glo_ok X G (c.fact 33 (f := .glo "NoPlace"))
      · exact He.glo_ok X G (c.fact 34 (f := .glo "NoText"))
      · exact He.glo_ok X G (c.fact 35 (f := .glo "NoLine"))
    gCt := He.glo_ok X G (c.fact 25 (f := .glo "CourtError"))
    ctR := r1
    ctV := r2
    npC := n1
    npN := n2
    npF := n3
    letters := He.str_ok X G (c.fact 72 (f := .str "LETTERS" "abcdefghijklmnopqrstuvwxyz"))
    longest := He.int_ok X G (c.fact 73 (f := .int "LONGEST_NAME" 12))
    mostP := He.int_ok X G (c.fact 74 (f := .int "MOST_PLACES" 20))
    mostT := He.int_ok X G (c.fact 75 (f := .int "MOST_TIES" 40))
    plain := ⟨_, He.glo_ok X G (c.fact 86 (f := .glo "PLAIN")), fun H => He.tupB_ok b5 H⟩
    counted := ⟨_, He.glo_ok X G (c.fact 87 (f := .glo "COUNTED")), fun H => He.tupB_ok b6 H⟩
    len := He.free_ok X G (c.fact 76 (f := .free "len"))
    list := He.free_ok X G (c.fact 77 (f := .free "list"))
    tuple := He.free_ok X G (c.fact 78 (f := .free "tuple"))
    isi := He.free_ok X G (c.fact 79 (f := .free "isinstance"))
    str := He.free_ok X G (c.fact 80 (f := .free "str"))
    int := He.free_ok X G (c.fact 81 (f := .free "int"))
    range := He.free_ok X G (c.fact 82 (f := .free "range"))
    enum := He.free_ok X G (c.fact 83 (f := .free "enumerate"))
    dict := He.free_ok X G (c.fact 84 (f := .free "dict"))
    ve := He.free_ok X G (c.fact 85 (f := .free "ValueError"))
  }
end
end NcHd
end

section
set_option maxHeartbeats 0
namespace NcHd
open PySem PySem.Spec PyProof.Rows L2 Nc
theorem run (w : World) : HandSHeadRun.RunEq R (PySem.W.view R.prog [123]) hk ob 20000 names w := by
  intro os
  kernel_rfl
end NcHd
end

section
set_option maxHeartbeats 4000000
/-! Rules of our own: a caught error that is kept as a value behind the except suite; isinstance of it, a field of it; CourtError.__init__(self, ..). -/
namespace Nc
open PySem PySem.Spec PyProof.Rows L2
/-- at e a caught error of the class at C, its own dict d -/
def exT (e C : Addr) (d : Option Addr) : HO := .ext fun h => ∃ (o : Obj) (fv : Array Value), h.get? e = some o ∧ Zc (.ref C) d o ∧ o.data = .fields fv
theorem exT_ok {P : Program} {w : World} {H : Hp} {h : Heap} {e C : Addr} {d : Option Addr} {o : Obj} {fv : Array Value} (g : h.get? e = some o) (z : Zc (.ref C) d o) (f : o.data = .fields fv) : ObjOk P w H h e (exT e C d) :=
  ⟨⟨o, fv, g, z, f⟩, ⟨o, g⟩, fun _ _ ⟨o', v', g', z', f'⟩ k => ⟨o', v', k o' g', z', f'⟩⟩
section
variable {X : Cx} {pins : List (Addr × Obj)} {σ : L2.St} {H : Hp} {s : Shared}
theorem exT_at (I : Inv X pins σ H s) {e C : Addr} {d : Option Addr} (h : H e = some (exT e C d)) : ∃ (o : Obj) (fv : Array Value), s.heap.get? e = some o ∧ Zc (.ref C) d o ∧ o.data = .fields fv := by
  have q : ObjOk X.prog X.w H s.heap e (.ext fun h => ∃ (o : Obj) (fv : Array Value), h.get? e = some o ∧ Zc (.ref C) d o ∧ o.data = .fields fv) := I.hok e _ h
  exact q.1
/-- back from the air, the error's own object known from now on -/
theorem kept_down {sI s' : Shared} {B : Heap} {a : Addr} {o : HO} (I : Inv X pins σ H sI) (nb : ∀ b u, sI.heap.get? b = some u → b ∉ frs X.stack → B.get? b = some u) (st : B.StaysIn s'.heap) (up : sI.heap.UpToSlots s'.heap)
    (os : s'.os = sI.os) (ag : AllBare s'.gens) (nB : B.get? a = none) (nF : a ∉ frs X.stack) (nH : H a = none) (new : ObjOk X.prog X.w (upd H a o) s'.heap a o) : Inv X pins σ (upd H a o) s' := by
  have nI : ∀ b u, sI.heap.get? b = some u → b ≠ a := fun b u e z => by
    subst z
    have q := nb b u e nF
    rw [nB] at q
    cases q
  have fr : ∀ b, b ∈ frs X.stack → ∀ u, sI.heap.get? b = some u → ∃ sl, s'.heap.get? b = some { u with slots := sl } := fun b hb u e => by
    obtain ⟨_, u', e', hd⟩ := I.stack.mem hb
    have q : u = u' := Option.some.inj (e.symm.trans e')
    subst q
    exact up b u e hd
  have un : Un (frs X.stack) [] H (upd H a o) sI.heap s'.heap := {
    keep := fun b u e _ hb _ => st b u (nb b u e hb)
    slot := fun b u e _ hb _ => fr b hb u e
    free := fun b u e n _ => (upd_ne (nI b u e)).trans n
    there := fun b u e _ => by
      by_cases hb : b ∈ frs X.stack
      · obtain ⟨sl, q⟩ := fr b hb u e
        exact ⟨_, q⟩
      · exact ⟨u, st b u (nb b u e hb)⟩
    tups := fun b xs e => (upd_ne (ne_of_none e nH)).trans e
    frzs := fun b u xs e => (upd_ne (ne_of_none e nH)).trans e
    tbls := fun b ps e => ⟨#[], (upd_ne (ne_of_none e nH)).trans (by rw [e]; simp)⟩ }
  have hok : HOk X.prog X.w (upd H a o) s'.heap := fun b u e => by
    by_cases hb : b = a
    · subst hb
      rw [upd_same] at e
      cases e
      exact new
    · rw [upd_ne hb] at e
      exact ((I.inGround nb).kept st b u e).stay (fun _ _ _ q => q) (fun c q => (upd_ne (ne_of_none q nH)).trans q) fun c xs q => (upd_ne (ne_of_none q nH)).trans q
  have J := I.call (ch := []) (h' := s'.heap) (g' := s'.gens) (t' := s'.toks) (d' := s'.drawn) un hok ag (fun _ z => nomatch z)
  obtain ⟨h1, h2, h3, h4, h5⟩ := s'
  obtain rfl : h5 = sI.os := os
  exact J
/-- into the except suite, nothing pinned -/
theorem to_suite (I : Inv X pins σ H s) (a : Addr) : Inv (X.suite a (X.pn ++ pins)) [] σ H s :=
  { ok := I.ok.suite _ _, os := I.os, bare := I.bare, base := I.base, loc := I.loc, cell := I.cell, free := I.free, freeC := I.freeC, hok := I.hok, len := I.len
    pin := fun p hp => I.pin p ((List.append_nil (X.pn ++ pins)) ▸ hp) }
theorem of_suite {a : Addr} {pn' : List (Addr × Obj)} (I : Inv (X.suite a (X.pn ++ pins)) pn' σ H s) (ok : X.Ok) : Inv X pins σ H s :=
  { ok := ok, os := I.os, bare := I.bare, base := I.base, loc := I.loc, cell := I.cell, free := I.free, freeC := I.freeC, hok := I.hok, len := I.len
    pin := fun p hp => I.pin p (List.mem_append_left _ hp) }
end
/-- the wish of a body whose every error the clause takes: the suite runs with the error known -/
def wKeep (K : PySem.W.Frag) (c : Value) (i : Nat) (ts : TS) (D : Ends) : WX := fun cls d σ H =>
  ∃ C : Addr, cls = .ref C ∧ PySem.W.exmOne K cls c = some true ∧ ∀ a, H a = none →
    ts { nx := fun σ' H' => D.nx (σ'.set i none) H', rt := D.rt, bk := fun σ' H' => D.bk (σ'.set i none) H', ct := fun σ' H' => D.ct (σ'.set i none) H' } (σ.set i (some (.ref a))) (upd H a (exT a C d))
section
variable {X : Cx} {x n : Str} {C0 : Addr} {i : Nat} {body suite : List Stmt} {b0 : Stmt} {np pos pos' : Pos} {tb : WX → TS} {ts : TS}
/-- try: body / except x as n: suite -/
theorem ps_try_keep (hs : X.stack = X.env :: X.outer) (hf : X.env.frame = some X.env.locals) (hN : X.N.Nodup) (hi : X.N[i]? = some n) (hln : X.env.kindOf n = some .local) (hg : Gl X x) (hm : X.mg x = some (.ref C0)) (hdb : (x == ("__debug__" : Str)) = false)
    (hb : ∀ (W : WX) (pn : List (Addr × Obj)) (xe : Value → Shared → Prop), Takes (X.tr pn xe) W → PassesOwn (model X.prog X.w) X.A X.env xe → PSs (X.tr pn xe) body (tb W))
    (hsu : ∀ (a : Addr) (pn : List (Addr × Obj)), PSs (X.suite a pn) (b0 :: suite) ts) :
    PS X (.Try body [.ExceptHandler (some (.Name x np)) (some n) (b0 :: suite) pos'] [] [] pos) (fun D σ H => tb (wKeep X.K (.ref C0) i ts D) D σ H) := by
  constructor
  intro pins s σ H D I h
  have ok := I.ok
  have hfr : X.A.frames = some (X.env :: X.outer) := by rw [ok.frames, hs]
  refine wpAny_Try_except ?_
  let xe : Value → Shared → Prop := fun e s1 => wpAny (model X.prog X.w) X.A (noteFrame e X.env) (fun _ s2 => wpAny (model X.prog X.w) X.A (setFlight e none)
    (fun _ s3 => wpAny (model X.prog X.w) X.A (handleBy e X.env [.ExceptHandler (some (.Name x np)) (some n) (b0 :: suite) pos']) (SP X pins D) X.xe s3) X.xe s2) X.xe s1
  have caught : Takes (X.tr (X.pn ++ pins) xe) (wKeep X.K (.ref C0) i ts D) := by
    rintro u s1 ⟨a, B, sI, pins1, σ1, H1, cls, d, rfl, J1, nb, up, sky, nA, os, ag, C, rfl, hmatch, hgo⟩
    have J : Inv X pins σ1 H1 sI := J1.ofTry ok
    have sky1 : Sky B (X.env :: X.outer) a (Zc (.ref C) d) X.env.locals s1.heap := hs ▸ sky
    refine Sky.land (Q := fun _ s3 => wpAny (model X.prog X.w) X.A (handleBy (.ref a) X.env [.ExceptHandler (some (.Name x np)) (some n) (b0 :: suite) pos']) (SP X pins D) X.xe s3) Zc.steady hfr hf sky1 fun h3 fl3 up3 => ?_
    have J3 : Inv X pins σ1 H1 { s1 with heap := h3 } := J.landed nb fl3.1 (up.trans up3) os ag
    obtain ⟨o3, v3, g3, z3, d3⟩ := fl3.there
    have nFr : a ∉ frs X.stack := fun hm => by
      rw [hs] at hm
      obtain ⟨_, o', g', hnf⟩ := fl3.2.2.1.mem hm
      have q : o3 = o' := Option.some.inj (g3.symm.trans g')
      subst q
      exact hnf _ d3
    refine wpAny_handleBy_cons (codeAny_handlers_test ?_) (fun q => nomatch q)
    have LT : PySem.W.Looks (model X.prog X.w) h3 (typeOf (.ref a)) (.ref C) := fun A Q E s k q => wpAny_typeOf_ref (k _ _ g3) (by rw [z3.1]; exact q)
    have LM := PySem.W.exm_one (M := model X.prog X.w) J3.kIn LT hmatch
    refine ld_glob (X := X.suite a (X.pn ++ pins)) (to_suite J3 a) hg hm (LM.here ?_) hdb
    refine codeAny_handlers_suite_as ?_
    refine HandSPX.lands_againZ fl3 fun h4 fl4 up4 => ?_
    obtain ⟨o4, v4, g4, z4, d4⟩ := fl4.there
    have J4 : Inv X pins σ1 (upd H1 a (exT a C d)) { s1 with heap := h4 } := kept_down J nb fl4.1 ((up.trans up3).trans up4) os ag fl4.2.1 nFr nA (exT_ok g4 z4 d4)
    refine store_ok (X := X.suite a (X.pn ++ pins)) (v := .ref a) (to_suite J4 a) hN hi (.inl hln) rfl (fun s5 S5 => ?_) (.inr hln)
    refine wpAny_mono ((hsu a (X.pn ++ pins)).run [] s5 _ _ _ S5 (hgo a nA)) (fun f s6 hsp => ?_) (fun _ _ z => False.elim z)
    have fin : ∀ {σ6 : L2.St} {H6 : Hp} {Q : Shared → Prop}, Inv (X.suite a (X.pn ++ pins)) [] σ6 H6 s6 → (∀ s7, Inv X pins (σ6.set i none) H6 s7 → Q s7) →
        wpAny (model X.prog X.w) X.A (do bindName X.env n .none; unbindBehindTheSuite X.env n pos') (fun _ s7 => Q s7) X.xe s6 := fun S6 hq => gone_ok (of_suite S6 ok) hN hi hln hq
    match f, hsp with
    | .next, ⟨σ6, H6, S6, q6⟩ => exact fin S6 fun s7 J7 => ⟨_, _, J7, q6⟩
    | .brk, ⟨σ6, H6, S6, q6⟩ => exact fin S6 fun s7 J7 => ⟨_, _, J7, q6⟩
    | .cont, ⟨σ6, H6, S6, q6⟩ => exact fin S6 fun s7 J7 => ⟨_, _, J7, q6⟩
    | .ret u, ⟨v6, σ6, H6, S6, r6, q6⟩ => exact fin S6 fun s7 J7 => ⟨_, _, _, J7, r6, q6⟩
  refine wpAny_mono ((hb _ (X.pn ++ pins) xe caught PassesOwn.looking).run [] s σ H D (I.toTry _) h) (fun f s1 hsp => ?_) (fun e s1 he => he)
  match f, hsp with
  | .next, ⟨σ1, H1, J1, q⟩ => exact wpAny_execs_nil ⟨σ1, H1, J1.ofTry ok, q⟩
  | .brk, ⟨σ1, H1, J1, q⟩ => exact ⟨σ1, H1, J1.ofTry ok, q⟩
  | .cont, ⟨σ1, H1, J1, q⟩ => exact ⟨σ1, H1, J1.ofTry ok, q⟩
  | .ret u, ⟨v, σ1, H1, J1, r, q⟩ => exact ⟨v, σ1, H1, J1.ofTry ok, r, q⟩
end
/-- its dict, if any, is known -/
def DictAt (d : Option Addr) (H : Hp) : Prop := d = none ∨ ∃ dd fs, d = some dd ∧ H dd = some (.xd fs)
theorem inst_of {X : Cx} {pins : List (Addr × Obj)} {σ : L2.St} {H : Hp} {s : Shared} {e C : Addr} {d : Option Addr} (I : Inv X pins σ H s) (h : H e = some (exT e C d)) (hd : DictAt d H) : ∃ o od, PySem.W.InstAt s.heap e o C od := by
  obtain ⟨o, fv, g, z, f⟩ := exT_at I h
  have no : PySem.W.notCls o = true := by
    unfold PySem.W.notCls
    rw [f]
  rcases hd with rfl | ⟨dd, fs, rfl, q⟩
  · exact ⟨o, none, g, z.1, no, by rw [z.2]; trivial⟩
  · obtain ⟨mA, ⟨od, _, _, ho, _⟩, _⟩ := (show ObjOk X.prog X.w H s.heap dd (.xd fs) from I.hok dd _ q)
    exact ⟨o, some od, g, z.1, no, by rw [z.2]; exact ho⟩
/-- isinstance(e, c), e a kept error, c a class of the module or a built-in one -/
def rIsK (K : PySem.W.Frag) : List V → Hp → VK → Prop := fun xs H Q => ∃ (a C : Addr) (d : Option Addr) (c : V) (cv : Value) (b : Bool), xs = [.ref a, c] ∧ H a = some (exT a C d) ∧ DictAt d H ∧ ExcC K C ∧ ClsV c cv ∧ PySem.W.kitOne K (.ref C) cv = some b ∧ Q (.bl b) H
theorem call_isK {X : Cx} : CallR X (.builtin "isinstance") (rIsK X.K) := by
  intro pins s σ H xs us Q I r h
  obtain ⟨a, C, d, c, cv, b, rfl, ha, hd, k, hc, e, q⟩ := h
  obtain ⟨u1, u2, rfl, r1, r2⟩ := vals2 r
  obtain rfl : u1 = Value.ref a := r1
  have e2 := hc.eq r2
  subst e2
  obtain ⟨o, od, J⟩ := inst_of I ha hd
  obtain ⟨cd, hcd, _⟩ := PySem.W.any_some k.hd
  exact PySem.W.kia_one (PySem.W.kitx_exc (ox := o) (od := od) (by rw [hcd]; rfl) k.hg k.hk k.hs k.ha k.hn k.ht k.hm) I.kIn J e (fun z => nomatch z) fun tk => ⟨.bl b, H, I.tok tk, rfl, q⟩
/-- e.f, e a kept error -/
def tXk (K : PySem.W.Frag) (f : Str) (te : TE) : TE := fun σ H Q => te σ H fun x H1 => ∃ (a C dd : Addr) (fs : List (Str × V)) (v : V), x = .ref a ∧ H1 a = some (exT a C (some dd)) ∧ H1 dd = some (.xd fs) ∧ XfC K C ∧ PySem.W.findIn K (.ref C) f = some none ∧ fs.lookup f = some v ∧ Q v H1
theorem pe_xk {X : Cx} {e : Expr} {te : TE} {pos : Pos} {f : Str} (he : PE X e te) (hb : attributeBase e f X.env (eval e X.env) = eval e X.env := by rfl) : PE X (.Attribute e f pos) (tXk X.K f te) := by
  constructor
  intro pins s σ H Q I h
  refine attr_of hb (thn (he.run pins s σ H _ I h) ?_)
  rintro u s1 ⟨x, H1, I1, rx, a, C, dd, fs, v, rfl, ha, hd, T, hno, l, q⟩
  obtain rfl : u = Value.ref a := rx
  obtain ⟨o, fv, g, z, fd⟩ := exT_at I1 ha
  obtain ⟨mA, hns, hr⟩ := (show ObjOk X.prog X.w H1 s1.heap dd (.xd fs) from I1.hok dd _ hd)
  obtain ⟨od, ho, hl⟩ := lookIn_ns hns
  obtain ⟨u, hu, ru⟩ := RelO.some_of (v := v) (o := mA f) (by rw [← l]; exact hr f)
  have J : PySem.W.InstAt s1.heap a o C (some od) := ⟨g, z.1, by unfold PySem.W.notCls; rw [fd], by rw [z.2]; exact ho⟩
  exact HandSPX.exc_get I1.kIn J T.ga T.gg T.exC (PySem.W.findObj_own T.hdC hno rfl (by rw [hl, hu])) (handed_of ru) ⟨v, H1, I1.tok _, ru, q⟩
/-- C.__init__(self, ..), C a class of the module above the error's, ValueError's own __init__ found there -/
theorem pe_ceinit {X : Cx} {x : Str} {C : Addr} {e : Expr} {es : List Expr} {ta : TA} {p1 p2 pos : Pos} {pl : Sem Bool} (hg : Gl X x) (hm : X.mg x = some (.ref C)) (hr : ClX.CRead X.K C (.type "type"))
    (hv : PySem.W.findCls X.K (.ref C) (.type "type") "__init__" = some (.val (.builtin "ValueError.__init__"))) (ha : PA X (e :: es) ta) (hdb : (x == ("__debug__" : Str)) = false := by decide)
    (hc : eval (.Call (.Attribute (.Name x p1) "__init__" p2) (e :: es) [] pos) X.env = (do
      let ov ← eval (.Name x p1) X.env
      standAt p2.atName
      let (f, first) ← holding [ov] (getMethod ov "__init__" pl)
      callWith pos f first (backTo pos (starEach (e :: es) X.env)) (backToKw pos (keywordEach [] X.env))) := by rfl)
    (he : starEach (e :: es) X.env = (false, eval e X.env) :: starEach es X.env := by rfl) (hpl : (backTo pos (starEach es X.env)).any (·.1) = false := by rfl) :
    PE X (.Call (.Attribute (.Name x p1) "__init__" p2) (e :: es) [] pos) (tVeI X.K ta) := by
  constructor
  intro pins s σ H Q I h
  refine PySem.W.methodCall_KW (ld_glob I hg hm ?_ hdb) hc
  refine PySem.W.method_cls I.kIn hr.ga (PySem.W.cls_value I.kIn hr.rd hv (by decide +kernel) ?_)
  show wpAny _ _ (callWith pos (Value.builtin "ValueError.__init__") [] (backTo pos (starEach (e :: es) X.env)) []) _ _ _
  refine PyProof.Rows.callWith_method1 (thn (ha.run pos pins _ σ H _ (I.tok _) h) ?_) he hpl
  rintro us s1 ⟨vs, H1, I1, r1, a, D, ws, rfl, hl, T, ea, q⟩
  match us, r1 with
  | u0 :: ur, .cons ra rw' =>
    obtain rfl : u0 = Value.ref a := ra
    refine oinit_ok T I1 ea ?_ fun s2 J => ⟨.non, H1, J, rfl, q⟩
    rw [← Paired.length rw', sizeLine_eq]
    omega
end Nc
end

section
set_option maxHeartbeats 4000000
namespace Nc
open PySem PySem.Spec PyProof.Rows L2
/-! is_name, look_at_name -/
abbrev letters : Str := "abcdefghijklmnopqrstuvwxyz"
def isName (z : Str) : Bool := !decide (z = ("" : Str)) && (decide (z.length ≤ 12) && z.cps.toList.all fun c => decide (c ∈ letters.cps.toList))
def spIsName : Sp := fun vs H Q _ => ∃ z : Str, vs = [.str z] ∧ z.length ≤ sizeLine ∧ Q (.bl (isName z)) H
def spLookName (K : PySem.W.Frag) : Sp := fun vs H Q E => ∃ z : Str, vs = [.str z] ∧ z.length ≤ sizeLine ∧ (isName z = true → Q .non H) ∧ (isName z = false → ∀ cls d, XIs K .name cls d H → E cls d H)
theorem take_all {α : Type} {l : List α} {p : α → Bool} {i : Nat} {c : α} (h : l[i]? = some c) (a : (l.take i).all p = true) (b : p c = true) : (l.take (i + 1)).all p = true := by
  rw [List.take_add_one, h]
  simp only [Option.toList, List.all_append, a, List.all_cons, b, List.all_nil, Bool.and_self]
theorem isName_no {z : Str} {i c : Nat} (h : z.cps[i]? = some c) (n : decide (c ∈ letters.cps.toList) = false) : isName z = false := by
  have h1 : z.cps.toList[i]? = some c := by rw [Array.getElem?_toList]; exact h
  have h2 : (z.cps.toList.all fun c => decide (c ∈ letters.cps.toList)) = false := by
    cases e : (z.cps.toList.all fun c => decide (c ∈ letters.cps.toList)) with
    | false => rfl
    | true =>
      have q := List.all_eq_true.mp e c (List.mem_of_getElem? h1)
      rw [n] at q
      cases q
  unfold isName
  rw [h2, Bool.and_false, Bool.and_false]
section
variable {P : Program} {w : World} {K : PySem.W.Frag} {mg : Str → Option Value} {base : Heap}
theorem sc_isName : FnScope ["text", "sign"] ["text"] (defScope sIsName) := ⟨rfl, rfl, rfl, by decide +kernel, rfl, by decide +kernel, by decide +kernel⟩
theorem rd_isName (T : Txt K mg) : Rd P w K mg base 1 "is_name" ["text"] spIsName := by
  refine rd_mk T.isName (fun _ _ _ _ _ _ us hl => match us, hl with | [_], _ => rfl) sc_isName (fun vs H Q E h => ?_) (fun f cdv A outer s H vs Q E hr h => ?_)
  · obtain ⟨z, rfl, _⟩ := h
    rfl
  · obtain ⟨z, rfl, hz, k⟩ := h
    have nd := sc_isName.nd
    refine ⟨_, pss_cons (ps_if (PW.pt (pw_or (pt_cmpR op_eq (pv 0) pe_str (nomark _)) (pw_or1 (pt_cmpR op_gt (pe_callB call_len_str (by rfl) T.len PySem.boot_len (pa_cons (pv 0) pa_nil)) (pe_gI T.longest) (nomark _))))) (pss_one (ps_ret pe_bl)) pss_nil)
      (pss_cons (ps_for (passes_of rfl) rfl (pi_str (pv 0)) (pg_name (i := 1) nd rfl (Or.inl rfl)) (pss_one (ps_if (pt_cmpR op_notIn_sign (pv 1) (pe_gS T.letters) (by rfl)) (pss_one (ps_ret pe_bl)) pss_nil)))
      (pss_one (ps_ret pe_bl))), ?_⟩
    refine ⟨_, rfl, rfl, _, rfl, ?_⟩
    by_cases h1 : z = ("" : Str)
    · refine ifT (decide_eq_true (by rw [h1])) (iteT ?_)
      have q : isName z = false := by unfold isName; rw [decide_eq_true h1]; rfl
      rw [q] at k
      exact k
    refine ifF (decide_eq_false (fun q => h1 (V.str.inj q))) ?_
    refine ⟨_, rfl, _, rfl, hz, _, _, rfl, rfl, _, rfl, ?_⟩
    by_cases h2 : z.length ≤ 12
    case neg =>
      refine ifT (decide_eq_true (by omega)) ?_
      have q : isName z = false := by unfold isName; rw [decide_eq_false h2, Bool.false_and, Bool.and_false]
      rw [q] at k
      exact k
    refine ifF (decide_eq_false (by omega)) ?_
    refine ⟨_, rfl, _, rfl, for_it walk_str (fun i σ H' => H' = H ∧ (∃ v, σ = [some (.str z), v]) ∧ (z.cps.toList.take i).all (fun c => decide (c ∈ letters.cps.toList)) = true) ⟨rfl, ⟨_, rfl⟩, by simp⟩ (fun _ _ _ _ _ => trivial) ?_ ?_⟩
    · rintro i x σ H1 H2 hi ⟨rfl, ⟨v, rfl⟩, ha⟩ ⟨rfl, c, hc, rfl⟩
      refine ⟨_, rfl, _, _, rfl, rfl, _, rfl, ?_⟩
      by_cases hm : c ∈ letters.cps.toList
      · refine ifF (by rw [decide_eq_true hm]; rfl) ?_
        exact ⟨rfl, ⟨_, rfl⟩, take_all (by rw [Array.getElem?_toList]; exact hc) ha (decide_eq_true hm)⟩
      · refine ifT (by rw [decide_eq_false hm]; rfl) ?_
        have q := isName_no hc (decide_eq_false hm)
        rw [q] at k
        exact k
    · rintro σ H1 ⟨rfl, ⟨v, rfl⟩, ha⟩
      have q : isName z = true := by
        unfold isName
        rw [decide_eq_false h1, decide_eq_true h2]
        rw [List.take_of_length_le (by simp)] at ha
        rw [ha]
        rfl
      rw [q] at k
      exact k
theorem sc_lookName : FnScope ["text"] ["text"] (defScope sLookName) := ⟨rfl, rfl, rfl, by decide +kernel, rfl, by decide +kernel, by decide +kernel⟩
theorem rd_lookName (T : Txt K mg) : Rd P w K mg base 2 "look_at_name" ["text"] (spLookName K) := by
  obtain ⟨f1, fd1, G1, g1, k1, b1⟩ := (rd_isName (P := P) (w := w) (base := base) T).ex
  have eN := T.erC "NoName" (by decide +kernel)
  refine rd_mk T.lookName (fun _ _ _ _ _ _ us hl => match us, hl with | [_], _ => rfl) sc_lookName (fun vs H Q E h => ?_) (fun f cdv A outer s H vs Q E hr h => ?_)
  · obtain ⟨z, rfl, _⟩ := h
    rfl
  · obtain ⟨z, rfl, hz, k, kE⟩ := h
    refine ⟨_, pss_one (ps_if (pt_not (pt_val (pe_call G1 hr rfl g1 k1 b1 .nil passL (pa_cons (pv 0) pa_nil))))
      (pss_one (ps_raise rfl (takes_of rfl rfl rfl rfl) (pmk_own PySem.F.excBase_ValueError eN.ex eN.g eN.kp (raises_own eN.sb eN.ty) rfl))) pss_nil), ?_⟩
    refine ⟨_, rfl, z, rfl, hz, _, rfl, ?_⟩
    cases e : isName z with
    | true =>
      refine ifF rfl ?_
      exact k e
    | false =>
      refine ifT rfl ?_
      exact kE e _ _ ⟨rfl, rfl⟩
end
end Nc
end

section
set_option maxHeartbeats 4000000
namespace Nc
open PySem PySem.Spec PyProof.Rows L2
/-! Net: made, read -/
/-- e is refused, all that was known as it was -/
def Refuses (K : PySem.W.Frag) (e : Er) (H : Hp) (E : XK) : Prop := ∀ cls d H', Same H H' → XIs K e cls d H' → E cls d H'
theorem Refuses.of {K : PySem.W.Frag} {e : Er} {H H1 : Hp} {E : XK} (r : Refuses K e H E) (s : Same H H1) : Refuses K e H1 E := fun cls d H' s' x => r cls d H' (s.trans s') x
/-- its texts are texts -/
def Tie.ok (t : Tie) : Prop := PyData.strOk t.name = true ∧ PyData.strOk t.a = true ∧ PyData.strOk t.b = true
/-- a net at n, its lists at k and l, what its ties are apart from ms -/
structure NetIs (K : PySem.W.Frag) (H : Hp) (n k l : Addr) (ps : List Str) (ts : List Tie) (ms : List Addr) : Prop where
  ob : ∃ dx, H n = some (.ins (gA K "Net") dx (nF k l))
  hk : H k = some (.lst (ps.map V.str))
  hl : ∃ tvs, H l = some (.lst tvs) ∧ DpAll K (hid ms H) tvs (ts.map Tie.d)
  okp : ∀ p ∈ ps, PyData.strOk p = true
  okt : ∀ t ∈ ts, Tie.ok t
theorem NetIs.same {K : PySem.W.Frag} {H H' : Hp} {n k l : Addr} {ps : List Str} {ts : List Tie} {ms : List Addr} (N : NetIs K H n k l ps ts ms) (s : Same H H') : NetIs K H' n k l ps ts ms := by
  obtain ⟨⟨dx, h1⟩, h2, ⟨tvs, h3, h4⟩, h5, h6⟩ := N
  exact ⟨⟨dx, s _ _ h1⟩, s _ _ h2, ⟨tvs, s _ _ h3, DpAll.same s.but.hid _ _ h4⟩, h5, h6⟩
theorem hid_nil {H : Hp} : hid [] H = H := by
  funext a
  exact if_neg (by simp)
theorem NetIs.open {K : PySem.W.Frag} {H : Hp} {n k l : Addr} {ps : List Str} {ts : List Tie} {ms : List Addr} (N : NetIs K H n k l ps ts ms) : NetIs K H n k l ps ts [] := by
  obtain ⟨h1, h2, ⟨tvs, h3, h4⟩, h5, h6⟩ := N
  exact ⟨h1, h2, ⟨tvs, h3, by rw [hid_nil]; exact DpAll.same hid_same _ _ h4⟩, h5, h6⟩
def named (ts : List Tie) (nm : Str) : Option Tie := ts.find? fun t => decide (t.name = nm)
theorem named_hit {ts : List Tie} {nm : Str} {i : Nat} {t : Tie} (a : ∀ j u, j < i → ts[j]? = some u → u.name ≠ nm) (h : ts[i]? = some t) (e : t.name = nm) : named ts nm = some t := by
  induction ts generalizing i with
  | nil => simp at h
  | cons u r ih =>
    unfold named
    cases i with
    | zero =>
      have q : u = t := Option.some.inj h
      subst q
      rw [List.find?_cons_of_pos (by rw [decide_eq_true e])]
    | succ i =>
      rw [List.find?_cons_of_neg (by rw [decide_eq_false (a 0 u (Nat.succ_pos _) rfl)]; exact Bool.false_ne_true)]
      exact ih (i := i) (fun j v hj hv => a (j + 1) v (Nat.succ_lt_succ hj) hv) h
theorem named_none {ts : List Tie} {nm : Str} (a : ∀ (j : Nat) u, ts[j]? = some u → u.name ≠ nm) : named ts nm = none := by
  unfold named
  rw [List.find?_eq_none]
  intro u hu
  obtain ⟨j, hj⟩ := List.mem_iff_getElem?.mp hu
  rw [decide_eq_false (a j u hj)]
  exact Bool.false_ne_true
/-- the i-th of a net's ties -/
theorem tie_at {K : PySem.W.Frag} {H : Hp} {tvs : List V} {ts : List Tie} {i : Nat} {v : V} (a : DpAll K H tvs (ts.map Tie.d)) (h : tvs[i]? = some v) : ∃ t p, ts[i]? = some t ∧ v = .ref p ∧ SqT K H p t.vs := by
  obtain ⟨d, hd, q⟩ := a.getV h
  rw [List.getElem?_map] at hd
  cases e : ts[i]? with
  | none =>
    rw [e] at hd
    cases hd
  | some t =>
    rw [e] at hd
    have z : t.d = d := Option.some.inj hd
    subst z
    obtain ⟨p, hp, hs⟩ := Tie.of q
    exact ⟨t, p, rfl, hp, hs⟩
def spNetInit (K : PySem.W.Frag) : Sp := fun vs H Q _ => ∃ p dx : Addr, vs = [.ref p] ∧ H p = some (.ins (gA K "Net") dx []) ∧
  ∀ (k l : Addr) (H' : Hp), H' p = some (.ins (gA K "Net") dx (nF k l)) → H' k = some (.lst []) → H' l = some (.lst []) → k ≠ l → H k = none → H l = none → SameBut [p] H H' → Q .non H'
def spNamed (K : PySem.W.Frag) : Sp := fun vs H Q _ => ∃ (n k l : Addr) (ps : List Str) (ts : List Tie) (ms : List Addr) (nm : Str), vs = [.ref n, .str nm] ∧ NetIs K H n k l ps ts ms ∧
  (named ts nm = none → Q .non H) ∧ ∀ t p, named ts nm = some t → SqT K (hid ms H) p t.vs → Q (.ref p) H
def spPlaces (K : PySem.W.Frag) : Sp := fun vs H Q _ => ∃ (n k l : Addr) (ps : List Str) (ts : List Tie) (ms : List Addr), vs = [.ref n] ∧ NetIs K H n k l ps ts ms ∧ ∀ q H', H q = none → Same H H' → H' q = some (.lst (ps.map V.str)) → Q (.ref q) H'
def spTies (K : PySem.W.Frag) : Sp := fun vs H Q _ => ∃ (n k l : Addr) (ps : List Str) (ts : List Tie) (ms : List Addr), vs = [.ref n] ∧ NetIs K H n k l ps ts ms ∧ ∀ q tvs H', H q = none → Same H H' → H' q = some (.lst tvs) → DpAll K (hid ms H') tvs (ts.map Tie.d) → Q (.ref q) H'
def spTwin (K : PySem.W.Frag) : Sp := fun vs H Q _ => ∃ (n k l : Addr) (ps : List Str) (ts : List Tie) (ms : List Addr), vs = [.ref n] ∧ NetIs K H n k l ps ts ms ∧ ∀ n2 k2 l2 H', Same H H' → NetIs K H' n2 k2 l2 ps ts [] → Q (.ref n2) H'
section
variable {P : Program} {w : World} {K : PySem.W.Frag} {mg : Str → Option Value} {base : Heap}
theorem sc_nInit : FnScope ["self"] ["self"] (defScope sNetInit) := ⟨rfl, rfl, rfl, by decide +kernel, rfl, by decide +kernel, by decide +kernel⟩
theorem put_known (k : Addr) : putF "known" (.ref k) [] = [(("known" : Str), V.ref k)] := rfl
theorem put_laid (k l : Addr) : putF "laid" (.ref l) [(("known" : Str), V.ref k)] = nF k l := by
  show (if ("known" : Str) = "laid" then _ else (("known" : Str), V.ref k) :: putF "laid" (V.ref l) []) = nF k l
  rw [if_neg (by decide +kernel)]
  rfl
theorem rm_nInit (T : Txt K mg) : Rm P w K mg base 1 "Net" "__init__" ["self"] (spNetInit K) := by
  refine rm_mk T.nInit (fun _ _ _ _ _ _ us hl => match us, hl with | [_], _ => rfl) sc_nInit (fun vs H Q E h => ?_) (fun f cdv A outer s H vs Q E hr h => ?_)
  · obtain ⟨p, dx, rfl, _⟩ := h
    rfl
  · obtain ⟨p, dx, rfl, hp, q⟩ := h
    refine ⟨_, pss_cons (ps_fld (pv 0) (pe_lst pa_nil) rfl) (pss_one (ps_fld (pv 0) (pe_lst pa_nil) rfl)), ?_⟩
    refine ⟨(by show 0 ≤ sizeLine; decide), fun k hk => ?_⟩
    have npk : p ≠ k := ne_of_none hp hk
    refine ⟨_, rfl, p, gA K "Net", dx, [], rfl, (by rw [upd_ne npk]; exact hp), T.clN, T.nKn, (by show 0 < 1000; decide), ?_⟩
    refine ⟨(by show 0 ≤ sizeLine; decide), fun l hl => ?_⟩
    rw [put_known] at hl ⊢
    have npl : p ≠ l := ne_of_none upd_same hl
    have hl2 : upd H k (.lst []) l = none := by
      rw [upd_ne npl.symm] at hl
      exact hl
    have nkl : k ≠ l := ne_of_none upd_same hl2
    have hl3 : H l = none := by
      rw [upd_ne nkl.symm] at hl2
      exact hl2
    refine ⟨_, rfl, p, gA K "Net", dx, _, rfl, (by rw [upd_ne npl]; exact upd_same), T.clN, T.nLa, (by show 1 < 1000; decide), ?_⟩
    rw [put_laid]
    refine q k l _ upd_same ?_ ?_ nkl hk hl3 ?_
    · rw [upd_ne npk.symm, upd_ne nkl, upd_ne npk.symm, upd_same]
    · rw [upd_ne npl.symm, upd_same]
    · intro b o e hb
      have hbp : b ≠ p := fun z => hb (by simp [z])
      rw [upd_ne hbp, upd_ne (ne_of_none e hl3), upd_ne hbp, upd_ne (ne_of_none e hk)]
      exact e
theorem sc_named : FnScope ["self", "name", "one"] ["self", "name"] (defScope sTieNamed) := ⟨rfl, rfl, rfl, by decide +kernel, rfl, by decide +kernel, by decide +kernel⟩
theorem rm_named (T : Txt K mg) : Rm P w K mg base 1 "Net" "tie_named" ["self", "name"] (spNamed K) := by
  refine rm_mk T.nNamed (fun _ _ _ _ _ _ us hl => match us, hl with | [_, _], _ => rfl) sc_named (fun vs H Q E h => ?_) (fun f cdv A outer s H vs Q E hr h => ?_)
  · obtain ⟨n, k, l, ps, ts, ms, nm, rfl, _⟩ := h
    rfl
  · obtain ⟨n, k, l, ps, ts, ms, nm, rfl, N, q0, q1⟩ := h
    obtain ⟨⟨dx, hn⟩, hk, ⟨tvs, hl, ha⟩, okp, okt⟩ := N
    have nd := sc_named.nd
    refine ⟨_, pss_cons (ps_for (passes_of rfl) rfl (pi_list (pe_fld (pv 0) rfl)) (pg_name (i := 2) nd rfl (Or.inl rfl))
      (pss_one (ps_if (pt_cmpR op_eq (pe_ix ix_tup (pv 2) pe_int (fun _ _ => rfl)) (pv 1) (nomark _)) (pss_one (ps_ret (pv 2))) pss_nil))) (pss_one (ps_ret pe_non)), ?_⟩
    refine ⟨_, rfl, n, _, dx, _, _, rfl, hn, T.clN, T.nLa, nF_laid k l, l, rfl, ⟨_, SqL.of hl⟩,
      for_list (K := K) (a := l) (xs := tvs) (fun i σ H' => H' = H ∧ (∃ v, σ = [some (.ref n), some (.str nm), v]) ∧ ∀ j u, j < i → ts[j]? = some u → u.name ≠ nm) ⟨rfl, ⟨_, rfl⟩, fun j u hj => absurd hj (Nat.not_lt_zero j)⟩ (fun i σ H' _ ⟨e, _⟩ => by rw [e]; exact SqL.of hl) ?_ ?_⟩
    · rintro i x σ H1 hi ⟨rfl, ⟨v, rfl⟩, hno⟩
      obtain ⟨t, p, ht, rfl, hs⟩ := tie_at ha hi
      refine ⟨_, rfl, p, _, 0, _, rfl, rfl, Same.seqT hid_same hs, at_of (j := 0) rfl rfl, _, rfl, rfl, _, rfl, ?_⟩
      by_cases e : t.name = nm
      · refine ifT (decide_eq_true (by rw [e])) ⟨_, rfl, ?_⟩
        exact q1 t p (named_hit hno ht e) hs
      · refine ifF (decide_eq_false fun z => e (V.str.inj z)) ⟨rfl, ⟨_, rfl⟩, fun j u hj hu => ?_⟩
        by_cases hji : j = i
        · rw [hji, ht] at hu
          rw [← Option.some.inj hu]
          exact e
        · exact hno j u (by omega) hu
    · rintro σ H1 ⟨rfl, ⟨v, rfl⟩, hno⟩
      refine q0 (named_none fun j u hu => hno j u ?_ hu)
      have h1 : j < ts.length := (List.getElem?_eq_some_iff.mp hu).1
      rw [ha.length, List.length_map]
      exact h1
theorem sc_places : FnScope ["self"] ["self"] (defScope sPlaces) := ⟨rfl, rfl, rfl, by decide +kernel, rfl, by decide +kernel, by decide +kernel⟩
theorem rm_places (T : Txt K mg) : Rm P w K mg base 1 "Net" "places" ["self"] (spPlaces K) := by
  refine rm_mk T.nPlaces (fun _ _ _ _ _ _ us hl => match us, hl with | [_], _ => rfl) sc_places (fun vs H Q E h => ?_) (fun f cdv A outer s H vs Q E hr h => ?_)
  · obtain ⟨n, k, l, ps, ts, ms, rfl, _⟩ := h
    rfl
  · obtain ⟨n, k, l, ps, ts, ms, rfl, N, q⟩ := h
    obtain ⟨⟨dx, hn⟩, hk, _⟩ := N
    refine ⟨_, pss_one (ps_ret (pe_callTy call_list_of rfl T.list boot_list (pa_cons (pe_fld (pv 0) rfl) pa_nil))), ?_⟩
    exact ⟨_, rfl, n, _, dx, _, _, rfl, hn, T.clN, T.nKn, nF_known k l, k, _, rfl, .inl (SqL.of hk), fun p hp => q p _ hp (Same.new hp) upd_same⟩
theorem sc_ties : FnScope ["self"] ["self"] (defScope sTies) := ⟨rfl, rfl, rfl, by decide +kernel, rfl, by decide +kernel, by decide +kernel⟩
theorem rm_ties (T : Txt K mg) : Rm P w K mg base 1 "Net" "ties" ["self"] (spTies K) := by
  refine rm_mk T.nTies (fun _ _ _ _ _ _ us hl => match us, hl with | [_], _ => rfl) sc_ties (fun vs H Q E h => ?_) (fun f cdv A outer s H vs Q E hr h => ?_)
  · obtain ⟨n, k, l, ps, ts, ms, rfl, _⟩ := h
    rfl
  · obtain ⟨n, k, l, ps, ts, ms, rfl, N, q⟩ := h
    obtain ⟨⟨dx, hn⟩, hk, ⟨tvs, hl, ha⟩, okp, okt⟩ := N
    refine ⟨_, pss_one (ps_ret (pe_callTy call_list_of rfl T.list boot_list (pa_cons (pe_fld (pv 0) rfl) pa_nil))), ?_⟩
    exact ⟨_, rfl, n, _, dx, _, _, rfl, hn, T.clN, T.nLa, nF_laid k l, l, _, rfl, .inl (SqL.of hl), fun p hp => q p _ _ hp (Same.new hp) upd_same (DpAll.same (Same.but (Same.new hp)).hid _ _ ha)⟩
theorem sc_twin : FnScope ["self", "other"] ["self"] (defScope sTwin) := ⟨rfl, rfl, rfl, by decide +kernel, rfl, by decide +kernel, by decide +kernel⟩
theorem put_known2 (k l k2 : Addr) : putF "known" (.ref k2) (nF k l) = nF k2 l := by
  show (if ("known" : Str) = "known" then (("known" : Str), V.ref k2) :: [(("laid" : Str), V.ref l)] else _) = nF k2 l
  rw [if_pos rfl]
  rfl
theorem put_laid2 (k l l2 : Addr) : putF "laid" (.ref l2) (nF k l) = nF k l2 := by
  show (if ("known" : Str) = "laid" then _ else (("known" : Str), V.ref k) :: (if ("laid" : Str) = "laid" then (("laid" : Str), V.ref l2) :: [] else _)) = nF k l2
  rw [if_neg (by decide +kernel), if_pos rfl]
  rfl
theorem rm_twin (T : Txt K mg) : Rm P w K mg base 3 "Net" "twin" ["self"] (spTwin K) := by
  obtain ⟨f1, fd1, G1, m1, b1⟩ := (rm_nInit (P := P) (w := w) (base := base) T).ex
  refine rm_mk T.nTwin (fun _ _ _ _ _ _ us hl => match us, hl with | [_], _ => rfl) sc_twin (fun vs H Q E h => ?_) (fun f cdv A outer s H vs Q E hr h => ?_)
  · obtain ⟨n, k, l, ps, ts, ms, rfl, _⟩ := h
    rfl
  · obtain ⟨n, k, l, ps, ts, ms, rfl, N, q⟩ := h
    have nd := sc_twin.nd
    refine ⟨_, pss_cons (ps_set (i := 1) nd rfl (Or.inl rfl) (pe_make0 (T.mkN m1) G1 hr rfl T.gN b1 .nil passL))
      (pss_cons (ps_fld (pv 1) (pe_callTy call_list_of rfl T.list boot_list (pa_cons (pe_fld (pv 0) rfl) pa_nil)) rfl)
      (pss_cons (ps_fld (pv 1) (pe_callTy call_list_of rfl T.list boot_list (pa_cons (pe_fld (pv 0) rfl) pa_nil)) rfl)
      (pss_one (ps_ret (pv 1))))), ?_⟩
    intro x dx nx ndx nex
    refine ⟨x, dx, rfl, upd_same, fun k0 l0 H1 h1 h2 h3 h4 h5 h6 s1 => ⟨rfl, ?_⟩⟩
    have sH : Same H H1 := fun b o e => s1 b o (by rw [upd_ne (ne_of_none e nx), upd_ne (ne_of_none e ndx)]; exact e) (by simp; exact ne_of_none e nx)
    have N1 := N.same sH
    obtain ⟨⟨dn, hn⟩, hk, ⟨tvs, hl, ha⟩, okp, okt⟩ := N1
    have nnx : n ≠ x := by
      obtain ⟨⟨dn', hn'⟩, _⟩ := N
      exact ne_of_none hn' nx
    -- other.known = list(self.known)
    refine ⟨_, rfl, n, _, dn, _, _, rfl, hn, T.clN, T.nKn, nF_known k l, k, _, rfl, .inl (SqL.of hk), fun k2 hk2 => ?_⟩
    have nxk2 : x ≠ k2 := ne_of_none h1 hk2
    refine ⟨_, rfl, x, _, dx, _, rfl, (by rw [upd_ne nxk2]; exact h1), T.clN, T.nKn, (by show 2 < 1000; decide), ?_⟩
    rw [put_known2]
    have nlx : l ≠ x := ne_of hl h1 (by intro z; cases z)
    have nlk2 : l ≠ k2 := ne_of_none hl hk2
    have nnk2 : n ≠ k2 := ne_of_none hn hk2
    -- other.laid = list(self.laid)
    refine ⟨_, rfl, n, _, dn, _, _, rfl, (by rw [upd_ne nnx, upd_ne nnk2]; exact hn), T.clN, T.nLa, nF_laid k l, l, _, rfl, .inl (SqL.of (by rw [upd_ne nlx, upd_ne nlk2]; exact hl)), fun l2 hl2 => ?_⟩
    have nxl2 : x ≠ l2 := ne_of_none upd_same hl2
    have hl2a : upd H1 k2 (.lst (ps.map V.str)) l2 = none := by
      rw [upd_ne nxl2.symm] at hl2
      exact hl2
    have nk2l2 : k2 ≠ l2 := ne_of_none upd_same hl2a
    have hl2b : H1 l2 = none := by
      rw [upd_ne nk2l2.symm] at hl2a
      exact hl2a
    refine ⟨_, rfl, x, _, dx, _, rfl, (by rw [upd_ne nxl2]; exact upd_same), T.clN, T.nLa, (by show 2 < 1000; decide), ?_⟩
    rw [put_laid2]
    refine ⟨_, rfl, ?_⟩
    have s2 : ∀ b o, H1 b = some o → b ≠ x → upd (upd (upd (upd H1 k2 (.lst (ps.map V.str))) x (.ins (gA K "Net") dx (nF k2 l0))) l2 (.lst tvs)) x (.ins (gA K "Net") dx (nF k2 l2)) b = some o := fun b o e hb => by
      rw [upd_ne hb, upd_ne (ne_of_none e hl2b), upd_ne hb, upd_ne (ne_of_none e hk2)]
      exact e
    refine q x k2 l2 _ (fun b o e => s2 b o (sH b o e) (ne_of_none e nx)) ⟨⟨dx, upd_same⟩, ?_, ⟨tvs, ?_, ?_⟩, okp, okt⟩
    · rw [upd_ne nxk2.symm, upd_ne nk2l2, upd_ne nxk2.symm, upd_same]
    · rw [upd_ne nxl2.symm, upd_same]
    · rw [hid_nil]
      obtain ⟨_, _, ⟨tvs0, hl0, ha0⟩, _, _⟩ := N
      have e0 : tvs0 = tvs := by
        have z := sH _ _ hl0
        rw [hl] at z
        injection z with z
        injection z with z
        exact z.symm
      subst e0
      exact DpAll.same (fun b o e => s2 b o (sH b o (hid_same b o e)) (ne_of_none (hid_same b o e) nx)) _ _ ha0
end
end Nc
end

section
set_option maxHeartbeats 4000000
namespace Nc
open PySem PySem.Spec PyProof.Rows L2
/-! Net: number_of_tie, cut, alter, place, tie -/
/-! ### data that may be compared -/
def Sh (n : Nat) (d : PyData) : Prop := d.canLay0 = true ∧ d.depth ≤ n
def ShAll (n : Nat) (ds : List PyData) : Prop := PyData.canLayAll0 ds = true ∧ PyData.depthAll ds ≤ n
theorem Sh.mono {m n : Nat} {d : PyData} (h : Sh m d) (l : m ≤ n) : Sh n d := ⟨h.1, Nat.le_trans h.2 l⟩
theorem ShAll.mono {m n : Nat} {ds : List PyData} (h : ShAll m ds) (l : m ≤ n) : ShAll n ds := ⟨h.1, Nat.le_trans h.2 l⟩
theorem Sh.ok {n : Nat} {d : PyData} (h : Sh n d) (l : n ≤ 64 := by decide) : SeqAt.shaped d = true := by
  show (d.canLay0 && decide (d.depth ≤ 64)) = true
  rw [h.1, Bool.true_and]
  exact decide_eq_true (Nat.le_trans h.2 l)
theorem sh_str {x : Str} (h : PyData.strOk x = true) : Sh 1 (.str x) := by
  constructor
  · simpa [PyData.canLay0] using h
  · simp [PyData.depth]
theorem sh_int {i : Int} : Sh 1 (.int i) := by constructor <;> simp [PyData.canLay0, PyData.depth]
theorem sh_bool {b : Bool} : Sh 1 (.bool b) := by constructor <;> simp [PyData.canLay0, PyData.depth]
theorem sha_nil {n : Nat} : ShAll n [] := by constructor <;> simp [PyData.canLayAll0, PyData.depthAll]
theorem sha_cons {n : Nat} {d : PyData} {ds : List PyData} (h : Sh n d) (t : ShAll n ds) : ShAll n (d :: ds) := by
  constructor
  · simp [PyData.canLayAll0, h.1, t.1]
  · have h1 := h.2
    have h2 := t.2
    simp only [PyData.depthAll]
    omega
theorem sh_list {n : Nat} {ds : List PyData} (h : ShAll n ds) : Sh (n + 1) (.list ds) := by
  constructor
  · simp [PyData.canLay0, h.1]
  · have h2 := h.2
    simp only [PyData.depth]
    omega
theorem sh_tup {n : Nat} {ds : List PyData} (h : ShAll n ds) : Sh (n + 1) (.tuple ds) := by
  constructor
  · simp [PyData.canLay0, h.1]
  · have h2 := h.2
    simp only [PyData.depth]
    omega
theorem sha_map {α : Type} {n : Nat} {f : α → PyData} : ∀ {l : List α}, (∀ x ∈ l, Sh n (f x)) → ShAll n (l.map f)
  | [], _ => sha_nil
  | x :: l, h => sha_cons (h x List.mem_cons_self) (sha_map fun y hy => h y (List.mem_cons_of_mem _ hy))
theorem sh_tie {t : Tie} (h : t.ok) : Sh 2 t.d := sh_tup (sha_cons (sh_str h.1) (sha_cons (sh_str h.2.1) (sha_cons (sh_str h.2.2) (sha_cons sh_int (sha_cons sh_int sha_nil)))))
theorem tie_eqv_ne {t u : Tie} (h : u.name ≠ t.name) : PyData.eqv u.d t.d = false := by
  unfold Tie.d
  simp only [PyData.eqv, PyData.eqvAll]
  rw [beq_eq_false_iff_ne.mpr h, Bool.false_and]
theorem tie_eqv_self (t : Tie) : PyData.eqv t.d t.d = true := by
  unfold Tie.d
  simp [PyData.eqv, PyData.eqvAll]
theorem named_some : ∀ {ts : List Tie} {nm : Str} {t : Tie}, named ts nm = some t → ∃ j : Nat, ts[j]? = some t ∧ t.name = nm ∧ ∀ m u, m < j → ts[m]? = some u → u.name ≠ nm
  | [], nm, t, h => by
    unfold named at h
    simp at h
  | u :: r, nm, t, h => by
    by_cases e : u.name = nm
    · have q : named (u :: r) nm = some u := by
        unfold named
        exact List.find?_cons_of_pos (by rw [decide_eq_true e])
      rw [q] at h
      have z := Option.some.inj h
      subst z
      exact ⟨0, rfl, e, fun m u hm => absurd hm (Nat.not_lt_zero m)⟩
    · have q : named (u :: r) nm = named r nm := by
        unfold named
        exact List.find?_cons_of_neg (by rw [decide_eq_false e]; exact Bool.false_ne_true)
      rw [q] at h
      obtain ⟨j, h1, h2, h3⟩ := named_some h
      refine ⟨j + 1, h1, h2, fun m v hm hv => ?_⟩
      cases m with
      | zero =>
        have z : u = v := Option.some.inj hv
        rw [← z]
        exact e
      | succ m => exact h3 m v (Nat.lt_of_succ_lt_succ hm) hv
theorem passX {P : Program} {w : World} {K : PySem.W.Frag} {mg : Str → Option Value} {base : Heap} {N : List Str} {q : Str} {sc : Scope} {f : Addr} {cdv : Value} {A : Around} {outer : List Env} {s : Shared} {H : Hp} {E : XK} :
    Passes (L2.CX P w) (cxOf (L2.CX P w) P w K mg base N q sc f cdv A outer s H E) E := passes_call (takes_of rfl rfl rfl rfl) (fun _ _ _ _ h => h)
def spNum (K : PySem.W.Frag) : Sp := fun vs H Q E => ∃ (n k l : Addr) (ps : List Str) (ts : List Tie) (ms : List Addr) (nm : Str), vs = [.ref n, .str nm] ∧ NetIs K H n k l ps ts ms ∧
  (named ts nm = none → Refuses K .tie H E) ∧ ∀ (t : Tie) (j : Nat), named ts nm = some t → ts[j]? = some t → Q (.int j) H
def spCut (K : PySem.W.Frag) : Sp := fun vs H Q E => ∃ (n k l : Addr) (ps : List Str) (ts : List Tie) (ms : List Addr) (nm : Str), vs = [.ref n, .str nm] ∧ NetIs K H n k l ps ts ms ∧ named ts nm = none ∧ Refuses K .tie H E
def alterEr (ts : List Tie) (nm : Str) : Er := if (named ts nm).isNone = true then .tie else .width
def spAlter (K : PySem.W.Frag) : Sp := fun vs H Q E => ∃ (n k l : Addr) (ps : List Str) (ts : List Tie) (ms : List Addr) (nm : Str) (wd c : Int), vs = [.ref n, .str nm, .int wd, .int c] ∧ NetIs K H n k l ps ts ms ∧ wd < 1 ∧ Refuses K (alterEr ts nm) H E
def placeEr (ps : List Str) (nm : Str) : Option Er := if isName nm = false then some .name else if nm ∈ ps then some .twice else if 20 ≤ ps.length then some .many else none
def spPlace (K : PySem.W.Frag) : Sp := fun vs H Q E => ∃ (n k l : Addr) (ps : List Str) (ts : List Tie) (ms : List Addr) (nm : Str), vs = [.ref n, .str nm] ∧ NetIs K H n k l ps ts ms ∧ nm.length ≤ sizeLine ∧ ps.length ≤ 1000 ∧
  (∀ e, placeEr ps nm = some e → Refuses K e H E) ∧ (placeEr ps nm = none → ∀ H', SameBut [k] H H' → H' k = some (.lst ((ps ++ [nm]).map V.str)) → Q .non H')
theorem map_at {l : List Str} {i : Nat} {x : V} (h : (l.map V.str)[i]? = some x) : ∃ z, l[i]? = some z ∧ x = .str z := by
  rw [List.getElem?_map] at h
  cases e : l[i]? with
  | none =>
    rw [e] at h
    cases h
  | some z =>
    rw [e] at h
    exact ⟨z, rfl, (Option.some.inj h).symm⟩
section
variable {P : Program} {w : World} {K : PySem.W.Frag} {mg : Str → Option Value} {base : Heap}
theorem sc_num : FnScope ["self", "name", "one"] ["self", "name"] (defScope sNumTie) := ⟨rfl, rfl, rfl, by decide +kernel, rfl, by decide +kernel, by decide +kernel⟩
theorem rm_num (T : Txt K mg) : Rm P w K mg base 2 "Net" "number_of_tie" ["self", "name"] (spNum K) := by
  obtain ⟨f1, fd1, G1, m1, b1⟩ := (rm_named (P := P) (w := w) (base := base) T).ex
  have eN := T.erC "NoTie" (by decide +kernel)
  refine rm_mk T.nNum (fun _ _ _ _ _ _ us hl => match us, hl with | [_, _], _ => rfl) sc_num (fun vs H Q E h => ?_) (fun f cdv A outer s H vs Q E hr h => ?_)
  · obtain ⟨n, k, l, ps, ts, ms, nm, rfl, _⟩ := h
    rfl
  · obtain ⟨n, k, l, ps, ts, ms, nm, rfl, N, qE, q⟩ := h
    have nd := sc_num.nd
    have hu : (A.deeper (envOfC "Net.number_of_tie" (defScope sNumTie) s.heap.objs.size f cdv)).units + 65 < cLine := by have := hr.un; omega
    refine ⟨_, pss_cons (ps_set (i := 2) nd rfl (Or.inl rfl) (pe_meth (pv 0) T.clN m1 G1 hr b1 .nil passL (pa_cons (pv 1) pa_nil)))
      (pss_cons (ps_if (pt_cmpR op_isN (pv 2) pe_non (nomark _)) (pss_one (ps_raise rfl (takes_of rfl rfl rfl rfl) (pmk_own PySem.F.excBase_ValueError eN.ex eN.g eN.kp (raises_own eN.sb eN.ty) rfl))) pss_nil)
      (pss_one (ps_ret (pe_bm PySem.F.plainAttrs_list PySem.F.slot_list_index PySem.F.type_list_index (mt_indexD hu) (pe_fld (pv 0) rfl) (pa_cons (pv 2) pa_nil))))), ?_⟩
    obtain ⟨⟨dx, hn⟩, hk, ⟨tvs, hl, ha⟩, okp, okt⟩ := id N
    refine ⟨_, rfl, n, dx, _, rfl, hn, nF_no _ _ (by decide +kernel) (by decide +kernel), _, rfl, n, k, l, ps, ts, ms, nm, rfl, N, fun e => ?_, fun t p e hs => ?_⟩
    · refine ⟨_, rfl, rfl, _, rfl, ifT rfl ?_⟩
      exact qE e _ _ _ (Same.refl _) ⟨rfl, rfl⟩
    · refine ⟨_, rfl, rfl, _, rfl, ifF rfl ?_⟩
      obtain ⟨j, h1, h2, h3⟩ := named_some e
      have aD : DpAll K H tvs (ts.map Tie.d) := DpAll.same hid_same _ _ ha
      refine ⟨_, rfl, n, _, dx, _, _, rfl, hn, T.clN, T.nLa, nF_laid k l, .inl ⟨rfl, _, SqL.of hl⟩, _, rfl, l, _, t.d, _, j, t.d, rfl, rfl, .lst (SqL.of hl) aD, Tie.mk_dp (Same.seqT hid_same hs),
        (sh_list (sha_map fun u hu => sh_tie (okt u hu))).ok, (sh_tie (okt t (List.mem_of_getElem? h1))).ok, by rw [List.getElem?_map, h1]; rfl, tie_eqv_self t, fun m z' hm hz => ?_, q t j e h1⟩
      rw [List.getElem?_map] at hz
      cases e2 : ts[m]? with
      | none =>
        rw [e2] at hz
        cases hz
      | some u =>
        rw [e2] at hz
        have z : u.d = z' := Option.some.inj hz
        rw [← z]
        exact tie_eqv_ne (by rw [h2]; exact h3 m u hm e2)
theorem sc_cut : FnScope ["self", "name"] ["self", "name"] (defScope sNetCut) := ⟨rfl, rfl, rfl, by decide +kernel, rfl, by decide +kernel, by decide +kernel⟩
theorem rm_cut (T : Txt K mg) : Rm P w K mg base 3 "Net" "cut" ["self", "name"] (spCut K) := by
  obtain ⟨f1, fd1, G1, m1, b1⟩ := (rm_num (P := P) (w := w) (base := base) T).ex
  refine rm_mk T.nCut (fun _ _ _ _ _ _ us hl => match us, hl with | [_, _], _ => rfl) sc_cut (fun vs H Q E h => ?_) (fun f cdv A outer s H vs Q E hr h => ?_)
  · obtain ⟨n, k, l, ps, ts, ms, nm, rfl, _⟩ := h
    rfl
  · obtain ⟨n, k, l, ps, ts, ms, nm, rfl, N, e, qE⟩ := h
    refine ⟨_, pss_one (ps_expr (pe_bm PySem.F.plainAttrs_list PySem.F.slot_list_pop PySem.F.type_list_pop mt_popAt (pe_fld (pv 0) rfl) (pa_cons (pe_meth (pv 0) T.clN m1 G1 hr b1 .nil passX (pa_cons (pv 1) pa_nil)) pa_nil))), ?_⟩
    obtain ⟨⟨dx, hn⟩, hk, ⟨tvs, hl, ha⟩, okp, okt⟩ := id N
    refine ⟨_, rfl, n, _, dx, _, _, rfl, hn, T.clN, T.nLa, nF_laid k l, .inl ⟨rfl, _, SqL.of hl⟩, _, rfl, n, dx, _, rfl, hn, nF_no _ _ (by decide +kernel) (by decide +kernel), _, rfl, n, k, l, ps, ts, ms, nm, rfl, N, fun _ => qE, fun t j e2 _ => ?_⟩
    rw [e] at e2
    cases e2
theorem sc_alter : FnScope ["self", "name", "width", "cost", "at", "one"] ["self", "name", "width", "cost"] (defScope sNetAlter) := ⟨rfl, rfl, rfl, by decide +kernel, rfl, by decide +kernel, by decide +kernel⟩
theorem rm_alter (T : Txt K mg) : Rm P w K mg base 3 "Net" "alter" ["self", "name", "width", "cost"] (spAlter K) := by
  obtain ⟨f1, fd1, G1, m1, b1⟩ := (rm_num (P := P) (w := w) (base := base) T).ex
  have eN := T.erC "NoWidth" (by decide +kernel)
  refine rm_mk T.nAlter (fun _ _ _ _ _ _ us hl => match us, hl with | [_, _, _, _], _ => rfl) sc_alter (fun vs H Q E h => ?_) (fun f cdv A outer s H vs Q E hr h => ?_)
  · obtain ⟨n, k, l, ps, ts, ms, nm, wd, c, rfl, _⟩ := h
    rfl
  · obtain ⟨n, k, l, ps, ts, ms, nm, wd, c, rfl, N, hw, qE⟩ := h
    have nd := sc_alter.nd
    refine ⟨_, pss_cons (ps_set (i := 4) nd rfl (Or.inl rfl) (pe_meth (pv 0) T.clN m1 G1 hr b1 .nil passX (pa_cons (pv 1) pa_nil)))
      (pss_cons (ps_if (pt_cmpR op_lt (pv 2) pe_int (nomark _)) (pss_one (ps_raise rfl (takes_of rfl rfl rfl rfl) (pmk_own PySem.F.excBase_ValueError eN.ex eN.g eN.kp (raises_own eN.sb eN.ty) rfl))) pss_nil)
      pss_never), ?_⟩
    obtain ⟨⟨dx, hn⟩, _⟩ := id N
    refine ⟨_, rfl, n, dx, _, rfl, hn, nF_no _ _ (by decide +kernel) (by decide +kernel), _, rfl, n, k, l, ps, ts, ms, nm, rfl, N, fun e => ?_, fun t j e _ => ?_⟩
    · have z : alterEr ts nm = .tie := by unfold alterEr; rw [e]; rfl
      rw [z] at qE
      exact qE
    · have z : alterEr ts nm = .width := by unfold alterEr; rw [e]; rfl
      rw [z] at qE
      refine ⟨_, rfl, _, _, rfl, rfl, _, rfl, ifT (decide_eq_true hw) ?_⟩
      exact qE _ _ _ (Same.refl _) ⟨rfl, rfl⟩
theorem inV_str {nm : Str} : ∀ {ps : List Str}, inV (.str nm) (ps.map V.str) = decide (nm ∈ ps)
  | [] => by simp [inV]
  | p :: ps => by
    have ih := inV_str (nm := nm) (ps := ps)
    unfold inV at ih ⊢
    rw [List.map_cons, List.any_cons, ih]
    have e : eqV (.str p) (.str nm) = decide (p = nm) := rfl
    rw [e]
    by_cases h : p = nm
    · subst h
      simp
    · rw [decide_eq_false h, Bool.false_or]
      by_cases h2 : nm ∈ ps
      · rw [decide_eq_true h2, decide_eq_true (List.mem_cons_of_mem _ h2)]
      · rw [decide_eq_false h2, decide_eq_false]
        intro z
        rcases List.mem_cons.mp z with z | z
        · exact h z.symm
        · exact h2 z
theorem flat_strs : ∀ ps : List Str, (ps.map V.str).all flatV = true
  | [] => rfl
  | p :: ps => by
    rw [List.map_cons, List.all_cons, flat_strs ps]
    rfl
theorem sc_place : FnScope ["self", "name"] ["self", "name"] (defScope sNetPlace) := ⟨rfl, rfl, rfl, by decide +kernel, rfl, by decide +kernel, by decide +kernel⟩
theorem rm_place (T : Txt K mg) : Rm P w K mg base 3 "Net" "place" ["self", "name"] (spPlace K) := by
  obtain ⟨f1, fd1, G1, g1, k1, b1⟩ := (rd_lookName (P := P) (w := w) (base := base) T).ex
  have eT := T.erC "Twice" (by decide +kernel)
  have eM := T.erC "TooMany" (by decide +kernel)
  refine rm_mk T.nPlace (fun _ _ _ _ _ _ us hl => match us, hl with | [_, _], _ => rfl) sc_place (fun vs H Q E h => ?_) (fun f cdv A outer s H vs Q E hr h => ?_)
  · obtain ⟨n, k, l, ps, ts, ms, nm, rfl, _⟩ := h
    rfl
  · obtain ⟨n, k, l, ps, ts, ms, nm, rfl, N, hz, hps, qE, q⟩ := h
    obtain ⟨⟨dx, hn⟩, hk, ⟨tvs, hl, ha⟩, okp, okt⟩ := id N
    refine ⟨_, pss_cons (ps_expr (pe_call G1 hr rfl g1 k1 b1 .nil passX (pa_cons (pv 1) pa_nil)))
      (pss_cons (ps_if (pt_cmpR op_in_seq (pv 1) (pe_fld (pv 0) rfl) (by rfl)) (pss_one (ps_raise rfl (takes_of rfl rfl rfl rfl) (pmk_own PySem.F.excBase_ValueError eT.ex eT.g eT.kp (raises_own eT.sb eT.ty) rfl))) pss_nil)
      (pss_cons (ps_if (pt_cmpR op_ge (pe_callB call_len_seq (by rfl) T.len PySem.boot_len (pa_cons (pe_fld (pv 0) rfl) pa_nil)) (pe_gI T.mostP) (nomark _)) (pss_one (ps_raise rfl (takes_of rfl rfl rfl rfl) (pmk_own PySem.F.excBase_ValueError eM.ex eM.g eM.kp (raises_own eM.sb eM.ty) rfl))) pss_nil)
      (pss_one (ps_expr (pe_bm PySem.F.plainAttrs_list PySem.F.slot_list_append PySem.F.type_list_append mt_append (pe_fld (pv 0) rfl) (pa_cons (pv 1) pa_nil)))))), ?_⟩
    refine ⟨_, rfl, nm, rfl, hz, fun hy => ?_, fun hno cls d x => qE .name (by unfold placeEr; rw [if_pos hno]) cls d H (Same.refl _) x⟩
    refine ⟨_, rfl, _, rfl, n, _, dx, _, _, rfl, hn, T.clN, T.nKn, nF_known k l, k, _, rfl, .inl (SqL.of hk), rfl, flat_strs ps, _, rfl, ?_⟩
    rw [inV_str]
    by_cases hm : nm ∈ ps
    · refine ifT (decide_eq_true hm) ?_
      exact qE .twice (by unfold placeEr; rw [if_neg (by rw [hy]; exact Bool.noConfusion), if_pos hm]) _ _ H (Same.refl _) ⟨rfl, rfl⟩
    refine ifF (decide_eq_false hm) ?_
    refine ⟨_, rfl, n, _, dx, _, _, rfl, hn, T.clN, T.nKn, nF_known k l, k, _, rfl, .inl (SqL.of hk), _, _, rfl, rfl, _, rfl, ?_⟩
    rw [List.length_map]
    by_cases h20 : 20 ≤ ps.length
    · refine ifT (decide_eq_true (by omega)) ?_
      exact qE .many (by unfold placeEr; rw [if_neg (by rw [hy]; exact Bool.noConfusion), if_neg hm, if_pos h20]) _ _ H (Same.refl _) ⟨rfl, rfl⟩
    refine ifF (decide_eq_false (by omega)) ?_
    refine ⟨_, rfl, n, _, dx, _, _, rfl, hn, T.clN, T.nKn, nF_known k l, .inl ⟨rfl, _, SqL.of hk⟩, _, rfl, k, _, _, rfl, rfl, hk, (by rw [List.length_map]; exact small1000 hps), ?_⟩
    refine q (by unfold placeEr; rw [if_neg (by rw [hy]; exact Bool.noConfusion), if_neg hm, if_neg h20]) _ (SameBut.upd (Same.but (Same.refl H)) (by simp)) ?_
    rw [upd_same, List.map_append]
    rfl
end
end Nc
end

section
set_option maxHeartbeats 4000000
namespace Nc
open PySem PySem.Spec PyProof.Rows L2
/-! Net: tie -/
def freshOf (ps : List Str) (l : List Str) : List Str := l.filter fun z => !decide (z ∈ ps)
def tieEr (ps : List Str) (ts : List Tie) (nm a b : Str) (wd : Int) : Option Er :=
  if (isName nm && (isName a && isName b)) = false then some .name else if (named ts nm).isSome = true then some .twice else if a = b then some .same else if wd < 1 then some .width
  else if 40 ≤ ts.length ∨ 20 < ps.length + (freshOf ps [a, b]).length then some .many else none
def spTie (K : PySem.W.Frag) : Sp := fun vs H Q E => ∃ (n k l : Addr) (ps : List Str) (ts : List Tie) (ms : List Addr) (nm a b : Str) (wd c : Int), vs = [.ref n, .str nm, .str a, .str b, .int wd, .int c] ∧ NetIs K H n k l ps ts ms ∧
  k ≠ l ∧ (∀ z ∈ [nm, a, b], z.length ≤ sizeLine) ∧ ps.length ≤ 1000 ∧ ts.length ≤ 1000 ∧ (∀ e, tieEr ps ts nm a b wd = some e → Refuses K e H E) ∧
  (tieEr ps ts nm a b wd = none → ∀ H' t tvs, SameBut [k, l] H H' → H' k = some (.lst ((ps ++ freshOf ps [a, b]).map V.str)) → H l = some (.lst tvs) → H' l = some (.lst (tvs ++ [.ref t])) → H' t = some (.tup (Tie.mk nm a b wd c).vs) → H t = none → Q .non H')
section
variable {P : Program} {w : World} {K : PySem.W.Frag} {mg : Str → Option Value} {base : Heap}
theorem sc_tie : FnScope ["self", "name", "a", "b", "width", "cost", "text", "fresh", "one"] ["self", "name", "a", "b", "width", "cost"] (defScope sNetTie) := ⟨rfl, rfl, rfl, by decide +kernel, rfl, by decide +kernel, by decide +kernel⟩
theorem rm_tie (T : Txt K mg) : Rm P w K mg base 3 "Net" "tie" ["self", "name", "a", "b", "width", "cost"] (spTie K) := by
  obtain ⟨f1, fd1, G1, g1, k1, b1⟩ := (rd_lookName (P := P) (w := w) (base := base) T).ex
  obtain ⟨f2, fd2, G2, m2, b2⟩ := ((rm_named (P := P) (w := w) (base := base) T).mono (show 1 ≤ 2 by decide)).ex
  have eT := T.erC "Twice" (by decide +kernel)
  have eS := T.erC "SamePlace" (by decide +kernel)
  have eW := T.erC "NoWidth" (by decide +kernel)
  have eM := T.erC "TooMany" (by decide +kernel)
  refine rm_mk T.nTie (fun _ _ _ _ _ _ us hl => match us, hl with | [_, _, _, _, _, _], _ => rfl) sc_tie (fun vs H Q E h => ?_) (fun f cdv A outer s H vs Q E hr h => ?_)
  · obtain ⟨n, k, l, ps, ts, ms, nm, a, b, wd, c, rfl, _⟩ := h
    rfl
  · obtain ⟨n, k, l, ps, ts, ms, nm, a, b, wd, c, rfl, N, nkl, hz, hps, hts, qE, q⟩ := h
    have nd := sc_tie.nd
    refine ⟨_, pss_cons (ps_for (passes_of rfl) rfl (pi_list (pe_lst (pa_cons (pv 1) (pa_cons (pv 2) (pa_cons (pv 3) pa_nil))))) (pg_name (i := 6) nd rfl (Or.inl rfl)) (pss_one (ps_expr (pe_call G1 hr rfl g1 k1 b1 .nil passX (pa_cons (pv 6) pa_nil))))) <|
      pss_cons (ps_if (pt_cmpR op_notN (pe_meth (pv 0) T.clN m2 G2 hr b2 .nil passL (pa_cons (pv 1) pa_nil)) pe_non (nomark _)) (pss_one (ps_raise rfl (takes_of rfl rfl rfl rfl) (pmk_own PySem.F.excBase_ValueError eT.ex eT.g eT.kp (raises_own eT.sb eT.ty) rfl))) pss_nil) <|
      pss_cons (ps_if (pt_cmpR op_eq (pv 2) (pv 3) (nomark _)) (pss_one (ps_raise rfl (takes_of rfl rfl rfl rfl) (pmk_own PySem.F.excBase_ValueError eS.ex eS.g eS.kp (raises_own eS.sb eS.ty) rfl))) pss_nil) <|
      pss_cons (ps_if (pt_cmpR op_lt (pv 4) pe_int (nomark _)) (pss_one (ps_raise rfl (takes_of rfl rfl rfl rfl) (pmk_own PySem.F.excBase_ValueError eW.ex eW.g eW.kp (raises_own eW.sb eW.ty) rfl))) pss_nil) <|
      pss_cons (ps_setLc (i := 7) (own := [("one", 8)]) (g := gName 8) (tt := tTest (tOp (rIn K true) (tVar 8) (tFld K (tVar 0) "known"))) (te := tVar 8) rfl nd rfl rfl (sw_true rfl rfl rfl (by decide +kernel)) (pi_list (pe_lst (pa_cons (pv 2) (pa_cons (pv 3) pa_nil))))
        (blkOk_by (N := ["self", "name", "a", "b", "width", "cost", "text", "fresh", "one"]) (sc := defScope sNetTie) (by decide +kernel))
        (fun _ _ _ _ _ => pg_name (i := 8) nd rfl (Or.inl rfl)) (fun _ _ _ _ _ => by exact pts_one (pt_cmpR op_notIn_seq (pv 8) (pe_fld (pv 0) rfl) (by rfl))) (fun _ _ _ _ _ => by exact pv 8)) <|
      pss_cons (ps_if (PW.pt (pw_or (pt_cmpR op_ge (pe_callB call_len_seq (by rfl) T.len PySem.boot_len (pa_cons (pe_fld (pv 0) rfl) pa_nil)) (pe_gI T.mostT) (nomark _))
          (pw_or1 (pt_cmpR op_gt (pe_op op_add (pe_callB call_len_seq (by rfl) T.len PySem.boot_len (pa_cons (pe_fld (pv 0) rfl) pa_nil)) (pe_callB call_len_seq (by rfl) T.len PySem.boot_len (pa_cons (pv 7) pa_nil))) (pe_gI T.mostP) (nomark _)))))
        (pss_one (ps_raise rfl (takes_of rfl rfl rfl rfl) (pmk_own PySem.F.excBase_ValueError eM.ex eM.g eM.kp (raises_own eM.sb eM.ty) rfl))) pss_nil) <|
      pss_cons (ps_expr (pe_bm PySem.F.plainAttrs_list PySem.F.slot_list_extend PySem.F.type_list_extend mt_extend (pe_fld (pv 0) rfl) (pa_cons (pv 7) pa_nil))) <|
      pss_one (ps_expr (pe_bm PySem.F.plainAttrs_list PySem.F.slot_list_append PySem.F.type_list_append mt_append (pe_fld (pv 0) rfl) (pa_cons (pe_tup (pa_cons (pv 1) (pa_cons (pv 2) (pa_cons (pv 3) (pa_cons (pv 4) (pa_cons (pv 5) pa_nil)))))) pa_nil))), ?_⟩
    -- for text in [name, a, b]: look_at_name(text)
    refine ⟨_, rfl, _, rfl, _, rfl, (by show 3 ≤ sizeLine; decide), fun p hp => ?_⟩
    have s1 : Same H (upd H p (.lst ([nm, a, b].map V.str))) := Same.new hp
    refine ⟨p, rfl, ⟨_, SqL.of upd_same⟩, for_list (K := K) (a := p) (xs := [nm, a, b].map V.str)
      (fun i σ H' => H' = upd H p (.lst ([nm, a, b].map V.str)) ∧ (∃ v, σ = [some (.ref n), some (.str nm), some (.str a), some (.str b), some (.int wd), some (.int c), v, none, none]) ∧ ∀ (j : Nat) z, j < i → [nm, a, b][j]? = some z → isName z = true)
      ⟨rfl, ⟨_, rfl⟩, fun j z hj => absurd hj (Nat.not_lt_zero j)⟩ (fun i σ H' _ ⟨e, _⟩ => by rw [e]; exact SqL.of upd_same) ?_ ?_⟩
    · rintro i x σ H1 hi ⟨rfl, ⟨v, rfl⟩, hy⟩
      obtain ⟨z, hzi, rfl⟩ := map_at hi
      refine ⟨_, rfl, z, rfl, hz z (List.mem_of_getElem? hzi), fun hyes => ⟨rfl, ⟨_, rfl⟩, fun j z' hj hz' => ?_⟩, fun hno cls d x => qE .name ?_ cls d _ s1 x⟩
      · by_cases hji : j = i
        · rw [hji, hzi] at hz'
          rw [← Option.some.inj hz']
          exact hyes
        · exact hy j z' (by omega) hz'
      · unfold tieEr
        rw [if_pos]
        cases e1 : isName nm <;> cases e2 : isName a <;> cases e3 : isName b <;> try rfl
        have hm := List.mem_of_getElem? hzi
        simp only [List.mem_cons, List.not_mem_nil, or_false] at hm
        rcases hm with rfl | rfl | rfl
        · rw [e1] at hno; cases hno
        · rw [e2] at hno; cases hno
        · rw [e3] at hno; cases hno
    rintro σ H1 ⟨hH1, ⟨v, rfl⟩, hall⟩
    have y1 := hall 0 nm (show 0 < 3 by decide) rfl
    have y2 := hall 1 a (show 1 < 3 by decide) rfl
    have y3 := hall 2 b (show 2 < 3 by decide) rfl
    have yy : ¬ (isName nm && (isName a && isName b)) = false := by rw [y1, y2, y3]; exact Bool.noConfusion
    rw [← hH1] at s1
    clear hH1 hall hp
    have N1 := N.same s1
    obtain ⟨⟨dx, hn⟩, hk, ⟨tvs, hl, ha⟩, okp, okt⟩ := id N1
    have hl0 : H l = some (.lst tvs) := by
      obtain ⟨_, _, ⟨tvs0, h0, _⟩, _, _⟩ := N
      have z := s1 _ _ h0
      rw [hl] at z
      rw [h0]
      exact z.symm
    -- self.tie_named(name) is not None
    refine ⟨_, rfl, n, dx, _, rfl, hn, nF_no _ _ (by decide +kernel) (by decide +kernel), _, rfl, n, k, l, ps, ts, ms, nm, rfl, N1, fun e0 => ?_, fun t pt e1 _ => ?_⟩
    case refine_2 =>
      refine ⟨rfl, _, rfl, ifT rfl ?_⟩
      exact qE .twice (by unfold tieEr; rw [if_neg yy, if_pos (by rw [e1]; rfl)]) _ _ _ s1 ⟨rfl, rfl⟩
    have n0 : ¬ (named ts nm).isSome = true := by rw [e0]; exact Bool.noConfusion
    refine ⟨rfl, _, rfl, ifF rfl ?_⟩
    -- a == b
    refine ⟨_, rfl, _, rfl, rfl, _, rfl, ?_⟩
    by_cases hab : a = b
    · refine ifT (decide_eq_true (by rw [hab])) ?_
      exact qE .same (by unfold tieEr; rw [if_neg yy, if_neg n0, if_pos hab]) _ _ _ s1 ⟨rfl, rfl⟩
    refine ifF (decide_eq_false fun z => hab (V.str.inj z)) ?_
    -- width < 1
    refine ⟨_, rfl, _, _, rfl, rfl, _, rfl, ?_⟩
    by_cases hw : wd < 1
    · refine ifT (decide_eq_true hw) ?_
      exact qE .width (by unfold tieEr; rw [if_neg yy, if_neg n0, if_neg hab, if_pos hw]) _ _ _ s1 ⟨rfl, rfl⟩
    refine ifF (decide_eq_false hw) ?_
    -- fresh
    refine ⟨_, rfl, _, rfl, (by show 2 ≤ sizeLine; decide), fun p2 hp2 => ⟨p2, rfl, ⟨_, SqL.of upd_same⟩, fun D hD => ?_⟩⟩
    have s2 : Same H1 (upd H1 p2 (.lst ([a, b].map V.str))) := Same.new hp2
    have hp2s : upd H1 p2 (.lst ([a, b].map V.str)) p2 = some (.lst ([a, b].map V.str)) := upd_same
    have hD : upd H1 p2 (.lst ([a, b].map V.str)) D = none := hD
    show ∃ W : Nat → Nat → Hp → Prop, (∃ m, W 0 m (upd (upd H1 p2 (.lst ([a, b].map V.str))) D (.lst []))) ∧ _
    generalize upd H1 p2 (.lst ([a, b].map V.str)) = H2 at s2 hp2s hD ⊢
    have s12 : Same H H2 := s1.trans s2
    refine lc_list (K := K) (a := p2) (xs := [a, b].map V.str) (fun i H' => H' = upd H2 D (.lst ((freshOf ps ([a, b].take i)).map V.str))) rfl
      (fun i H' _ e => by rw [e]; exact SqL.of (by rw [upd_ne (ne_of_none hp2s hD)]; exact hp2s)) ?_ ?_
    · rintro i x H3 hi rfl
      obtain ⟨z, hzi, rfl⟩ := map_at hi
      have nn : n ≠ D := ne_of_none (s2 _ _ hn) hD
      have nk : k ≠ D := ne_of_none (s2 _ _ hk) hD
      refine ⟨rfl, _, rfl, _, rfl, n, _, dx, _, _, rfl, (by rw [upd_ne nn]; exact s2 _ _ hn), T.clN, T.nKn, nF_known k l, k, _, rfl, .inl (SqL.of (by rw [upd_ne nk]; exact s2 _ _ hk)), rfl, flat_strs ps, _, rfl, ?_⟩
      have ht : [a, b].take (i + 1) = [a, b].take i ++ [z] := by rw [List.take_add_one, hzi]; rfl
      by_cases hm : z ∈ ps
      · refine ifF (by show (!inV (.str z) (ps.map V.str)) = false; rw [inV_str, decide_eq_true hm]; rfl) ?_
        show upd H2 D _ = upd H2 D _
        rw [ht]
        unfold freshOf
        rw [List.filter_append, List.filter_cons_of_neg (by rw [decide_eq_true hm]; exact Bool.noConfusion), List.filter_nil, List.append_nil]
      · refine ifT (by show (!inV (.str z) (ps.map V.str)) = true; rw [inV_str, decide_eq_false hm]; rfl) ?_
        refine ⟨_, rfl, _, upd_same, ?_, ?_⟩
        · rw [List.length_map]
          refine small1000 ?_
          refine Nat.le_trans (List.length_filter_le ..) (Nat.le_trans (List.length_take_le' ..) ?_)
          show 2 ≤ 1000
          decide
        · show upd (upd H2 D _) D _ = upd H2 D _
          rw [upd_upd, ht]
          unfold freshOf
          rw [List.filter_append, List.filter_cons_of_pos (by rw [decide_eq_false hm]; rfl), List.filter_nil, List.map_append]
          rfl
    rintro H3 e3
    have hDs : H3 D = some (.lst ((freshOf ps [a, b]).map V.str)) := by rw [e3]; exact upd_same
    have s3 : Same H2 H3 := by rw [e3]; exact Same.new hD
    clear e3
    have s13 : Same H H3 := s12.trans s3
    have hn3 := s3 _ _ (s2 _ _ hn)
    have hk3 := s3 _ _ (s2 _ _ hk)
    have hl3 := s3 _ _ (s2 _ _ hl)
    have lf : (freshOf ps [a, b]).length ≤ 2 := List.length_filter_le ..
    have lt : tvs.length = ts.length := by rw [ha.length, List.length_map]
    -- too many?
    refine ⟨_, rfl, n, _, dx, _, _, rfl, hn3, T.clN, T.nLa, nF_laid k l, l, _, rfl, .inl (SqL.of hl3), _, _, rfl, rfl, _, rfl, ?_⟩
    rw [lt]
    by_cases h40 : 40 ≤ ts.length
    · refine ifT (decide_eq_true (by omega)) (ifT rfl ?_)
      exact qE .many (by unfold tieEr; rw [if_neg yy, if_neg n0, if_neg hab, if_neg hw, if_pos (.inl h40)]) _ _ _ s13 ⟨rfl, rfl⟩
    refine ifF (decide_eq_false (by omega)) ?_
    refine ⟨_, rfl, n, _, dx, _, _, rfl, hn3, T.clN, T.nKn, nF_known k l, k, _, rfl, .inl (SqL.of hk3), _, rfl, D, _, rfl, .inl (SqL.of hDs), _, _, rfl, rfl, _, _, rfl, rfl, _, rfl, ?_⟩
    rw [List.length_map, List.length_map]
    by_cases h20 : 20 < ps.length + (freshOf ps [a, b]).length
    · refine ifT (decide_eq_true (by omega)) ?_
      exact qE .many (by unfold tieEr; rw [if_neg yy, if_neg n0, if_neg hab, if_neg hw, if_pos (.inr h20)]) _ _ _ s13 ⟨rfl, rfl⟩
    refine ifF (decide_eq_false (by omega)) ?_
    have hnone : tieEr ps ts nm a b wd = none := by unfold tieEr; rw [if_neg yy, if_neg n0, if_neg hab, if_neg hw, if_neg (by omega)]
    -- self.known.extend(fresh)
    refine ⟨_, rfl, n, _, dx, _, _, rfl, hn3, T.clN, T.nKn, nF_known k l, .inl ⟨rfl, _, SqL.of hk3⟩, _, rfl, k, D, _, _, rfl, rfl, hk3, hDs, (by rw [List.length_map, List.length_map]; exact Nat.le_of_lt (Nat.lt_of_le_of_lt (show _ ≤ 1002 by omega) (by decide))), ?_⟩
    -- self.laid.append(..)
    have nnk : n ≠ k := ne_of hn3 hk3 (by intro z; cases z)
    refine ⟨_, rfl, n, _, dx, _, _, rfl, (by rw [upd_ne nnk]; exact hn3), T.clN, T.nLa, nF_laid k l, .inl ⟨rfl, _, SqL.of (by rw [upd_ne nkl.symm]; exact hl3)⟩, _, rfl, _, rfl, _, rfl, _, rfl, _, rfl, (by show 5 ≤ sizeLine; decide), fun t ht => ?_⟩
    have ntk : t ≠ k := (ne_of_none upd_same ht).symm
    have ht3 : H3 t = none := by
      rw [upd_ne ntk] at ht
      exact ht
    have nlt : l ≠ t := ne_of_none hl3 ht3
    refine ⟨l, _, _, rfl, rfl, (by rw [upd_ne nlt, upd_ne nkl.symm]; exact hl3), (by rw [lt]; exact small1000 hts), ?_⟩
    refine q hnone _ t tvs ?_ ?_ hl0 upd_same ?_ (s13.free ht3)
    · intro x o e hx
      have h1 : x ≠ k := fun z => hx (by simp [z])
      have h2 : x ≠ l := fun z => hx (by simp [z])
      rw [upd_ne h2, upd_ne (ne_of_none (s13 _ _ e) ht3), upd_ne h1]
      exact s13 _ _ e
    · rw [upd_ne nkl, upd_ne ntk.symm, upd_same, List.map_append]
    · rw [upd_ne nlt.symm, upd_same]
      rfl
end
end Nc
end

section
set_option maxHeartbeats 4000000
namespace Nc
open PySem PySem.Spec PyProof.Rows L2
/-! NoPlace's __init__; refuse_strangers -/
def spNoPlace (K : PySem.W.Frag) : Sp := fun vs H Q _ => ∃ (a : Addr) (z : Str), vs = [.ref a, .str z] ∧ H a = some (exo a (gA K "NoPlace") none) ∧
  ∀ d, H d = none → d ≠ a → Q .non (upd (upd H d (exd d [(("name" : Str), .str z)])) a (exo a (gA K "NoPlace") (some d)))
/-- the first name that is no place -/
def stranger (ps names : List Str) : Option Str := names.find? fun z => !decide (z ∈ ps)
theorem stranger_hit {ps : List Str} : ∀ {names : List Str} {i : Nat} {z : Str}, (∀ j u, j < i → names[j]? = some u → u ∈ ps) → names[i]? = some z → z ∉ ps → stranger ps names = some z
  | [], i, z, _, h, _ => by simp at h
  | x :: r, 0, z, _, h, hn => by
    have e : x = z := Option.some.inj h
    subst e
    unfold stranger
    exact List.find?_cons_of_pos (by rw [decide_eq_false hn]; rfl)
  | x :: r, i + 1, z, a, h, hn => by
    have hx : x ∈ ps := a 0 x (Nat.succ_pos _) rfl
    have ih := stranger_hit (names := r) (i := i) (z := z) (fun j u hj hu => a (j + 1) u (Nat.succ_lt_succ hj) hu) h hn
    unfold stranger at ih ⊢
    rw [List.find?_cons_of_neg (by rw [decide_eq_true hx]; exact Bool.noConfusion)]
    exact ih
theorem stranger_none {ps names : List Str} (a : ∀ (j : Nat) u, names[j]? = some u → u ∈ ps) : stranger ps names = none := by
  unfold stranger
  rw [List.find?_eq_none]
  intro u hu
  obtain ⟨j, hj⟩ := List.mem_iff_getElem?.mp hu
  rw [decide_eq_true (a j u hj)]
  exact Bool.noConfusion
def spRefuse (K : PySem.W.Frag) : Sp := fun vs H Q E => ∃ (n k l : Addr) (ps : List Str) (ts : List Tie) (ms : List Addr) (nl : Addr) (names : List Str), vs = [.ref n, .ref nl] ∧ NetIs K H n k l ps ts ms ∧ SqL K H nl (names.map V.str) ∧
  (stranger ps names = none → ∀ H', Same H H' → Q .non H') ∧ ∀ z, stranger ps names = some z → Refuses K (.place z) H E
section
variable {P : Program} {w : World} {K : PySem.W.Frag} {mg : Str → Option Value} {base : Heap}
theorem sc_noPlace : FnScope ["self", "name"] ["self", "name"] (defScope sNoPlaceInit) := ⟨rfl, rfl, rfl, by decide +kernel, rfl, by decide +kernel, by decide +kernel⟩
theorem rm_noPlace (T : Txt K mg) : Rm P w K mg base 1 "NoPlace" "__init__" ["self", "name"] (spNoPlace K) := by
  refine rm_mk T.npI (fun _ _ _ _ _ _ us hl => match us, hl with | [_, _], _ => rfl) sc_noPlace (fun vs H Q E h => ?_) (fun f cdv A outer s H vs Q E hr h => ?_)
  · obtain ⟨a, z, rfl, _⟩ := h
    rfl
  · obtain ⟨a, z, rfl, ha, q⟩ := h
    refine ⟨_, pss_cons (ps_expr (pe_ceinit rfl T.gCt T.ctR T.ctV (pa_cons (pv 0) (pa_cons pe_str pa_nil)))) <| pss_one (ps_ost (pv 0) (pv 1)), ?_⟩
    exact ⟨_, rfl, a, _, _, rfl, (by show 1 ≤ 1000; decide), T.npC, ha, _, rfl, _, rfl, a, _, rfl, T.npC, T.npN, .inl ⟨ha, q⟩⟩
theorem sc_refuse : FnScope ["net", "names", "places", "name"] ["net", "names"] (defScope sRefuse) := ⟨rfl, rfl, rfl, by decide +kernel, rfl, by decide +kernel, by decide +kernel⟩
theorem rd_refuse (T : Txt K mg) : Rd P w K mg base 3 "refuse_strangers" ["net", "names"] (spRefuse K) := by
  obtain ⟨f1, fd1, G1, m1, b1⟩ := ((rm_places (P := P) (w := w) (base := base) T).mono (show 1 ≤ 2 by decide)).ex
  obtain ⟨f2, fd2, G2, m2, b2⟩ := (rm_noPlace (P := P) (w := w) (base := base) T).ex
  refine rd_mk T.refuse (fun _ _ _ _ _ _ us hl => match us, hl with | [_, _], _ => rfl) sc_refuse (fun vs H Q E h => ?_) (fun f cdv A outer s H vs Q E hr h => ?_)
  · obtain ⟨n, k, l, ps, ts, ms, nl, names, rfl, _⟩ := h
    rfl
  · obtain ⟨n, k, l, ps, ts, ms, nl, names, rfl, N, hS, q, qE⟩ := h
    have nd := sc_refuse.nd
    have gNP : mg "NoPlace" = some (.ref (gA K "NoPlace")) := T.gEr "NoPlace" (by decide +kernel)
    refine ⟨_, pss_cons (ps_set (i := 2) nd rfl (Or.inl rfl) (pe_meth0 (pv 0) T.clN m1 G1 hr b1 .nil passL)) <|
      pss_one (ps_for (passes_of rfl) rfl (pi_list (pv 1)) (pg_name (i := 3) nd rfl (Or.inl rfl)) (pss_one (ps_if (pt_cmpR op_notIn_seq (pv 3) (pv 2) (by rfl))
        (pss_one (ps_raise rfl (takes_of rfl rfl rfl rfl) (pmk_oex T.npC m2.at_ (beq_iff_eq.mp m2.fn) G2 hr b2 .nil passL rfl gNP (pa_cons (pv 3) pa_nil)))) pss_nil))), ?_⟩
    obtain ⟨dx, hn⟩ := N.ob
    refine ⟨_, rfl, n, dx, _, rfl, hn, nF_no _ _ (by decide +kernel) (by decide +kernel), n, k, l, ps, ts, ms, rfl, N, fun pl H1 hpl s1 hp1 => ?_⟩
    refine ⟨_, rfl, nl, rfl, ⟨_, s1.seq hS⟩, for_list (K := K) (a := nl) (xs := names.map V.str) (fun i σ H' => H' = H1 ∧ (∃ v, σ = [some (.ref n), some (.ref nl), some (.ref pl), v]) ∧ ∀ (j : Nat) u, j < i → names[j]? = some u → u ∈ ps)
      ⟨rfl, ⟨_, rfl⟩, fun j u hj => absurd hj (Nat.not_lt_zero j)⟩ (fun i σ H' _ ⟨e, _⟩ => by rw [e]; exact s1.seq hS) ?_ ?_⟩
    · rintro i x σ H2 hi ⟨rfl, ⟨v, rfl⟩, hall⟩
      obtain ⟨z, hz, rfl⟩ := map_at hi
      refine ⟨_, rfl, _, rfl, pl, _, rfl, .inl (SqL.of hp1), rfl, flat_strs ps, _, rfl, ?_⟩
      by_cases hm : z ∈ ps
      · refine ifF (by show (!inV (.str z) (ps.map V.str)) = false; rw [inV_str, decide_eq_true hm]; rfl) ⟨rfl, ⟨_, rfl⟩, fun j u hj hu => ?_⟩
        by_cases hji : j = i
        · rw [hji, hz] at hu
          rw [← Option.some.inj hu]
          exact hm
        · exact hall j u (by omega) hu
      · refine ifT (by show (!inV (.str z) (ps.map V.str)) = true; rw [inV_str, decide_eq_false hm]; rfl) ?_
        refine ⟨_, rfl, (by show 1 ≤ 1000; decide), fun a ha => ⟨a, z, rfl, upd_same, fun d hd hne => ⟨rfl, d, [(("name" : Str), V.str z)], upd_same, ?_, ?_, ?_⟩⟩⟩
        · rw [upd_ne hne, upd_same]
        · rw [upd_ne hne] at hd
          exact hd
        · have hd1 : H2 d = none := by
            rw [upd_ne hne] at hd
            exact hd
          refine qE z (stranger_hit hall hz hm) _ _ _ (fun b o e => ?_) ⟨rfl, d, rfl, upd_same⟩
          have e1 := s1 _ _ e
          have nb : b ≠ a := ne_of_none e1 ha
          rw [upd_ne (ne_of_none e1 hd1), del_ne nb, upd_ne nb, upd_ne (ne_of_none e1 hd1), upd_ne nb]
          exact e1
    · rintro σ H2 ⟨rfl, ⟨v, rfl⟩, hall⟩
      exact q (stranger_none fun j u hu => hall j u (by rw [List.length_map]; exact (List.getElem?_eq_some_iff.mp hu).1) hu) _ s1
end
end Nc
end

section
set_option maxHeartbeats 4000000
namespace Nc
open PySem PySem.Spec PyProof.Rows L2
/-! names_in_set, names_in_term, free_names, look_at_claim -/
section
variable {K : PySem.W.Frag} {H : Hp}
theorem dp_tup {v : V} {ds : List PyData} (h : Dp K H v (.tuple ds)) : ∃ p xs, v = .ref p ∧ SqT K H p xs ∧ DpAll K H xs ds := by
  cases h with
  | tup hs ha => exact ⟨_, _, rfl, hs, ha⟩
theorem dp_list {v : V} {ds : List PyData} (h : Dp K H v (.list ds)) : ∃ p xs, v = .ref p ∧ SqL K H p xs ∧ DpAll K H xs ds := by
  cases h with
  | lst hs ha => exact ⟨_, _, rfl, hs, ha⟩
theorem dp_cons {xs : List V} {d : PyData} {ds : List PyData} (h : DpAll K H xs (d :: ds)) : ∃ x r, xs = x :: r ∧ Dp K H x d ∧ DpAll K H r ds := by
  cases h with
  | cons h1 h2 => exact ⟨_, _, rfl, h1, h2⟩
theorem dp_nil {xs : List V} (h : DpAll K H xs []) : xs = [] := by
  cases h
  rfl
theorem dp_str {v : V} {z : Str} (h : Dp K H v (.str z)) : v = .str z := by
  cases h
  rfl
theorem dp_bool {v : V} {b : Bool} (h : Dp K H v (.bool b)) : v = .bl b := by
  cases h
  rfl
theorem dp_strs {v : V} {l : List Str} (h : Dp K H v (.tuple (l.map PyData.str))) : ∃ p, v = .ref p ∧ SqT K H p (l.map V.str) := by
  obtain ⟨p, xs, e, hs, ha⟩ := dp_tup h
  rw [DpAll.strs_inv ha] at hs
  exact ⟨p, e, hs⟩
end
/-- the claims that are met -/
inductive Cl where
  | way (a b : Str) | ring | each (x a : Str) (c : Cl) | or (c d : Cl) | atm (l : List Str) (q b : Str)
def Cl.d : Cl → PyData
  | .way a b => .tuple [.str "way", .str a, .str b]
  | .ring => .tuple [.str "ring"]
  | .each x a c => .tuple [.str "each", .str x, .tuple [.str "to", .str a], c.d]
  | .or c e => .tuple [.str "or", c.d, e.d]
  | .atm l q b => .tuple [.str "atmost", .tuple [.str "size", .tuple [.str "these", .list (l.map PyData.str)]], .tuple [.str "flow", .str q, .str b]]
def Cl.names : Cl → List Str
  | .way a b => [a, b]
  | .ring => []
  | .each x a c => a :: c.names.filter fun z => !decide (z = x)
  | .or c e => c.names ++ e.names
  | .atm l q b => l ++ [q, b]
def Cl.deep : Cl → Nat
  | .way _ _ => 0
  | .ring => 0
  | .each _ _ c => c.deep + 1
  | .or c e => max c.deep e.deep + 1
  | .atm _ _ _ => 0
def Cl.sz : Cl → Nat
  | .way _ _ => 2
  | .ring => 0
  | .each _ _ c => c.sz + 1
  | .or c e => c.sz + e.sz
  | .atm l _ _ => l.length + 2
theorem Cl.names_le : ∀ c : Cl, c.names.length ≤ c.sz
  | .way _ _ => Nat.le_refl _
  | .ring => Nat.le_refl _
  | .each x a c => Nat.succ_le_succ (Nat.le_trans (List.length_filter_le ..) (names_le c))
  | .or c e => by
    show (c.names ++ e.names).length ≤ c.sz + e.sz
    rw [List.length_append]
    exact Nat.add_le_add (names_le c) (names_le e)
  | .atm l q b => by
    show (l ++ [q, b]).length ≤ l.length + 2
    rw [List.length_append]
    exact Nat.le_refl _
theorem Cl.ref {K : PySem.W.Frag} {H : Hp} {v : V} {c : Cl} (h : Dp K H v c.d) : ∃ p, v = .ref p := by
  cases c <;> exact let ⟨p, _, e, _⟩ := dp_tup h; ⟨p, e⟩
/-- a new list of texts -/
def NewStrs (H : Hp) (l : List Str) (Q : VK) : Prop := ∀ r H', H r = none → Same H H' → H' r = some (.lst (l.map V.str)) → Q (.ref r) H'
theorem NewStrs.of {H H1 : Hp} {l : List Str} {Q : VK} (q : NewStrs H l Q) (s : Same H H1) : NewStrs H1 l Q := fun r H' h s' h' => q r H' (s.free h) (s.trans s') h'
/-- .. of whatever new list of the same items -/
theorem NewStrs.here {H : Hp} {l : List Str} {Q : VK} {xs : List V} (q : NewStrs H l Q) (e : xs = l.map V.str) {r : Addr} (h : H r = none) : Q (.ref r) (upd H r (.lst xs)) := q r _ h (Same.new h) (by rw [upd_same, e])
def spNSet (K : PySem.W.Frag) : Sp := fun vs H Q _ => ∃ (v : V) (l : List Str), vs = [v] ∧ (Dp K H v (.tuple [.str "these", .list (l.map PyData.str)]) ∨ ∃ a, l = [a] ∧ Dp K H v (.tuple [.str "to", .str a])) ∧ NewStrs H l Q
def spNTerm (K : PySem.W.Frag) : Sp := fun vs H Q _ => ∃ (v : V) (l : List Str), vs = [v] ∧ (Dp K H v (.tuple [.str "size", .tuple [.str "these", .list (l.map PyData.str)]]) ∨ ∃ a b, l = [a, b] ∧ Dp K H v (.tuple [.str "flow", .str a, .str b])) ∧ NewStrs H l Q
def spFree (K : PySem.W.Frag) (n : Nat) : Sp := fun vs H Q _ => ∃ (v : V) (c : Cl), vs = [v] ∧ Dp K H v c.d ∧ c.deep < n ∧ c.sz ≤ 1000 ∧ NewStrs H c.names Q
section
variable {P : Program} {w : World} {K : PySem.W.Frag} {mg : Str → Option Value} {base : Heap}
theorem sc_nset : FnScope ["kind"] ["kind"] (defScope sNamesSet) := ⟨rfl, rfl, rfl, by decide +kernel, rfl, by decide +kernel, by decide +kernel⟩
theorem rd_nset (T : Txt K mg) : Rd P w K mg base 1 "names_in_set" ["kind"] (spNSet K) := by
  refine rd_mk T.namesSet (fun _ _ _ _ _ _ us hl => match us, hl with | [_], _ => rfl) sc_nset (fun vs H Q E h => ?_) (fun f cdv A outer s H vs Q E hr h => ?_)
  · obtain ⟨v, l, rfl, _⟩ := h
    rfl
  · obtain ⟨v, l, rfl, hv, q⟩ := h
    refine ⟨_, pss_cons (ps_if (pt_cmpR op_eq (pe_ix ix_tup (pv 0) pe_int (fun _ _ => rfl)) pe_str (nomark _)) (pss_one (ps_ret (pe_callTy call_list_of rfl T.list boot_list (pa_cons (pe_ix ix_tup (pv 0) pe_int (fun _ _ => rfl)) pa_nil)))) pss_nil) <|
      pss_one (ps_ret (pe_callTy call_list_of rfl T.list boot_list (pa_cons (pe_slice sl_tup (pv 0) (po_some pe_int) po_none) pa_nil))), ?_⟩
    rcases hv with hv | ⟨a, rfl, hv⟩
    · obtain ⟨p, xs, rfl, hs, ha⟩ := dp_tup hv
      obtain ⟨x1, r1, rfl, h1, ha⟩ := dp_cons ha
      obtain ⟨x2, r2, rfl, h2, ha⟩ := dp_cons ha
      obtain rfl := dp_nil ha
      obtain rfl := dp_str h1
      obtain ⟨pl, ys, rfl, hl, hla⟩ := dp_list h2
      rw [DpAll.strs_inv hla] at hl
      refine ⟨_, rfl, p, _, 0, _, rfl, rfl, hs, at_of (j := 0) rfl rfl, rfl, _, rfl, ifT (by decide +kernel) ?_⟩
      exact ⟨_, rfl, p, _, 1, _, rfl, rfl, hs, at_of (j := 1) rfl rfl, pl, _, rfl, .inl hl, fun r h => q.here rfl h⟩
    · obtain ⟨p, rfl, hs⟩ := dp_strs (l := ["to", a]) hv
      refine ⟨_, rfl, p, _, 0, _, rfl, rfl, hs, at_of (j := 0) rfl rfl, rfl, _, rfl, ifF (by decide +kernel) ?_⟩
      refine ⟨_, rfl, _, rfl, p, _, rfl, hs, fun h => absurd h.1 (by show ¬ HT.sIx 2 0 (some 1) = 0; decide), fun t ht => ⟨t, _, rfl, .inr (SqT.of upd_same), fun r h => ?_⟩⟩
      exact (q.of (Same.new ht)).here rfl h
theorem sc_nterm : FnScope ["term", "word"] ["term"] (defScope sNamesTerm) := ⟨rfl, rfl, rfl, by decide +kernel, rfl, by decide +kernel, by decide +kernel⟩
theorem rd_nterm (T : Txt K mg) : Rd P w K mg base 2 "names_in_term" ["term"] (spNTerm K) := by
  obtain ⟨f1, fd1, G1, g1, k1, b1⟩ := (rd_nset (P := P) (w := w) (base := base) T).ex
  obtain ⟨pc, gC, hC⟩ := T.counted
  refine rd_mk T.namesTerm (fun _ _ _ _ _ _ us hl => match us, hl with | [_], _ => rfl) sc_nterm (fun vs H Q E h => ?_) (fun f cdv A outer s H vs Q E hr h => ?_)
  · obtain ⟨v, l, rfl, _⟩ := h
    rfl
  · obtain ⟨v, l, rfl, hv, q⟩ := h
    have nd := sc_nterm.nd
    refine ⟨_, pss_cons (ps_set (i := 1) nd rfl (Or.inl rfl) (pe_ix ix_tup (pv 0) pe_int (fun _ _ => rfl))) <|
      pss_cons (ps_if (pt_cmpR op_eq (pv 1) pe_str (nomark _)) pss_never pss_nil) <|
      pss_cons (ps_if (pt_cmpR op_in_seq (pv 1) (pe_gR gC) (by rfl)) (pss_one (ps_ret (pe_lst (pa_cons (pe_ix ix_tup (pv 0) pe_int (fun _ _ => rfl)) (pa_cons (pe_ix ix_tup (pv 0) pe_int (fun _ _ => rfl)) pa_nil))))) pss_nil) <|
      pss_cons (ps_if (pt_cmpR op_eq (pv 1) pe_str (nomark _)) (pss_one (ps_ret (pe_call G1 hr rfl g1 k1 b1 .nil passL (pa_cons (pe_ix ix_tup (pv 0) pe_int (fun _ _ => rfl)) pa_nil)))) pss_nil) <|
      pss_never, ?_⟩
    rcases hv with hv | ⟨a, b, rfl, hv⟩
    · obtain ⟨p, xs, rfl, hs, ha⟩ := dp_tup hv
      obtain ⟨x1, r1, rfl, h1, ha⟩ := dp_cons ha
      obtain ⟨x2, r2, rfl, h2, ha⟩ := dp_cons ha
      obtain rfl := dp_nil ha
      obtain rfl := dp_str h1
      refine ⟨_, rfl, p, _, 0, _, rfl, rfl, hs, at_of (j := 0) rfl rfl, _, rfl, rfl, _, rfl, ifF (by decide +kernel) ?_⟩
      refine ⟨_, rfl, pc, _, rfl, .inr (hC H), rfl, rfl, _, rfl, ifF (by decide +kernel) ?_⟩
      refine ⟨_, rfl, rfl, _, rfl, ifT (by decide +kernel) ?_⟩
      exact ⟨_, rfl, p, _, 1, _, rfl, rfl, hs, at_of (j := 1) rfl rfl, x2, l, rfl, .inl h2, q⟩
    · obtain ⟨p, rfl, hs⟩ := dp_strs (l := ["flow", a, b]) hv
      refine ⟨_, rfl, p, _, 0, _, rfl, rfl, hs, at_of (j := 0) rfl rfl, _, rfl, rfl, _, rfl, ifF (by decide +kernel) ?_⟩
      refine ⟨_, rfl, pc, _, rfl, .inr (hC H), rfl, rfl, _, rfl, ifT (by decide +kernel) ?_⟩
      exact ⟨_, rfl, p, _, 1, _, rfl, rfl, hs, at_of (j := 1) rfl rfl, _, rfl, p, _, 2, _, rfl, rfl, hs, at_of (j := 2) rfl rfl, (by show 2 ≤ sizeLine; decide), fun r h => q.here rfl h⟩
theorem sc_free : FnScope ["claim", "word", "name"] ["claim"] (defScope sFreeNames) := ⟨rfl, rfl, rfl, by decide +kernel, rfl, by decide +kernel, by decide +kernel⟩
theorem z1000 {n : Nat} (h : n ≤ 2000) : n ≤ sizeLine := Nat.le_trans h (by decide)
theorem rd_free (T : Txt K mg) : ∀ n, Rd P w K mg base (n + 3) "free_names" ["claim"] (spFree K n)
  | 0 => by
    refine rd_mk T.freeNames (fun _ _ _ _ _ _ us hl => match us, hl with | [_], _ => rfl) sc_free (fun vs H Q E h => ?_) (fun f cdv A outer s H vs Q E hr h => ⟨_, pss_never, ?_⟩)
    · obtain ⟨v, c, rfl, _⟩ := h
      rfl
    · obtain ⟨v, c, _, _, h0, _⟩ := h
      exact absurd h0 (Nat.not_lt_zero _)
  | n + 1 => by
    obtain ⟨f1, fd1, G1, g1, k1, b1⟩ := ((rd_nset (P := P) (w := w) (base := base) T).mono (show 1 ≤ n + 3 by omega)).ex
    obtain ⟨f2, fd2, G2, g2, k2, b2⟩ := ((rd_nterm (P := P) (w := w) (base := base) T).mono (show 2 ≤ n + 3 by omega)).ex
    obtain ⟨f3, fd3, G3, g3, k3, b3⟩ := (rd_free T n).ex
    obtain ⟨pc, gC, hC⟩ := T.plain
    refine rd_mk T.freeNames (fun _ _ _ _ _ _ us hl => match us, hl with | [_], _ => rfl) sc_free (fun vs H Q E h => ?_) (fun f cdv A outer s H vs Q E hr h => ?_)
    · obtain ⟨v, c, rfl, _⟩ := h
      rfl
    · obtain ⟨v, c, rfl, hv, hd, hz, q⟩ := h
      have nd := sc_free.nd
      refine ⟨_, pss_cons (ps_set (i := 1) nd rfl (Or.inl rfl) (pe_ix ix_tup (pv 0) pe_int (fun _ _ => rfl))) <|
        pss_cons (ps_if (pt_cmpR op_eq (pv 1) pe_str (nomark _)) pss_never pss_nil) <|
        pss_cons (ps_if (pt_cmpR op_in_seq (pv 1) (pe_gR gC) (by rfl)) (pss_one (ps_ret (pe_callTy call_list_of rfl T.list boot_list (pa_cons (pe_slice sl_tup (pv 0) (po_some pe_int) po_none) pa_nil)))) pss_nil) <|
        pss_cons (ps_if (pt_cmpR op_eq (pv 1) pe_str (nomark _)) (pss_one (ps_ret (pe_op op_cat (pe_call G2 hr rfl g2 k2 b2 .nil passL (pa_cons (pe_ix ix_tup (pv 0) pe_int (fun _ _ => rfl)) pa_nil)) (pe_call G2 hr rfl g2 k2 b2 .nil passL (pa_cons (pe_ix ix_tup (pv 0) pe_int (fun _ _ => rfl)) pa_nil))))) pss_nil) <|
        pss_cons (ps_if (pt_cmpR op_eq (pv 1) pe_str (nomark _)) pss_never pss_nil) <|
        pss_cons (ps_if (PW.pt (pw_or (pt_cmpR op_eq (pv 1) pe_str (nomark _)) (pw_or1 (pt_cmpR op_eq (pv 1) pe_str (nomark _)))))
          (pss_one (ps_ret (pe_op op_cat (pe_call G3 hr rfl g3 k3 b3 .nil passL (pa_cons (pe_ix ix_tup (pv 0) pe_int (fun _ _ => rfl)) pa_nil)) (pe_call G3 hr rfl g3 k3 b3 .nil passL (pa_cons (pe_ix ix_tup (pv 0) pe_int (fun _ _ => rfl)) pa_nil))))) pss_nil) <|
        pss_one (ps_ret (pe_op op_cat (pe_call G1 hr rfl g1 k1 b1 .nil passL (pa_cons (pe_ix ix_tup (pv 0) pe_int (fun _ _ => rfl)) pa_nil))
          (pe_lc (own := [("name", 2)]) (g := gName 2) (tt := tTest (tOp rNe (tVar 2) (tOp (rIxT K) (tVar 0) (tC (.int 1))))) (te := tVar 2) rfl nd (pi_list (pe_call G3 hr rfl g3 k3 b3 .nil passL (pa_cons (pe_ix ix_tup (pv 0) pe_int (fun _ _ => rfl)) pa_nil)))
            (blkOk_by (N := ["claim", "word", "name"]) (sc := defScope sFreeNames) (by decide +kernel)) (fun _ _ _ _ _ => pg_name (i := 2) nd rfl (Or.inl rfl)) (fun _ _ _ _ _ => by exact pts_one (pt_cmpR op_ne (pv 2) (pe_ix ix_tup (pv 0) pe_int (fun _ _ => rfl)) (nomark _))) (fun _ _ _ _ _ => by exact pv 2)))), ?_⟩
      cases c with
      | way a b =>
        obtain ⟨p, rfl, hs⟩ := dp_strs (l := ["way", a, b]) hv
        refine ⟨_, rfl, p, _, 0, _, rfl, rfl, hs, at_of (j := 0) rfl rfl, _, rfl, rfl, _, rfl, ifF (by decide +kernel) ?_⟩
        refine ⟨_, rfl, pc, _, rfl, .inr (hC H), rfl, rfl, _, rfl, ifT (by decide +kernel) ?_⟩
        refine ⟨_, rfl, _, rfl, p, _, rfl, hs, fun h => absurd h.1 (by show ¬ HT.sIx 3 0 (some 1) = 0; decide), fun t ht => ⟨t, _, rfl, .inr (SqT.of upd_same), fun r h => ?_⟩⟩
        exact (q.of (Same.new ht)).here rfl h
      | ring =>
        obtain ⟨p, rfl, hs⟩ := dp_strs (l := ["ring"]) hv
        refine ⟨_, rfl, p, _, 0, _, rfl, rfl, hs, at_of (j := 0) rfl rfl, _, rfl, rfl, _, rfl, ifF (by decide +kernel) ?_⟩
        refine ⟨_, rfl, pc, _, rfl, .inr (hC H), rfl, rfl, _, rfl, ifT (by decide +kernel) ?_⟩
        refine ⟨_, rfl, _, rfl, p, _, rfl, hs, fun h => absurd h.1 (by show ¬ HT.sIx 1 0 (some 1) = 0; decide), fun t ht => ⟨t, _, rfl, .inr (SqT.of upd_same), fun r h => ?_⟩⟩
        exact (q.of (Same.new ht)).here rfl h
      | atm l u b =>
        obtain ⟨p, xs, rfl, hs, ha⟩ := dp_tup hv
        obtain ⟨x1, r1, rfl, h1, ha⟩ := dp_cons ha
        obtain ⟨x2, r2, rfl, h2, ha⟩ := dp_cons ha
        obtain ⟨x3, r3, rfl, h3, ha⟩ := dp_cons ha
        obtain rfl := dp_nil ha
        obtain rfl := dp_str h1
        refine ⟨_, rfl, p, _, 0, _, rfl, rfl, hs, at_of (j := 0) rfl rfl, _, rfl, rfl, _, rfl, ifF (by decide +kernel) ?_⟩
        refine ⟨_, rfl, pc, _, rfl, .inr (hC H), rfl, rfl, _, rfl, ifF (by decide +kernel) ?_⟩
        refine ⟨_, rfl, rfl, _, rfl, ifT (by decide +kernel) ?_⟩
        refine ⟨_, rfl, p, _, 1, _, rfl, rfl, hs, at_of (j := 1) rfl rfl, x2, l, rfl, .inl h2, fun r1 H1 n1 s1 e1 => ?_⟩
        refine ⟨_, rfl, p, _, 2, _, rfl, rfl, Same.seqT s1 hs, at_of (j := 2) rfl rfl, x3, [u, b], rfl, .inr ⟨u, b, rfl, Dp.same s1 _ _ h3⟩, fun r2 H2 n2 s2 e2 => ?_⟩
        refine ⟨r1, r2, _, _, rfl, rfl, s2 _ _ e1, e2, ?_, fun r h => ?_⟩
        · rw [List.length_map, List.length_map]
          exact z1000 (by show l.length + 2 ≤ 2000; have : l.length + 2 ≤ 1000 := hz; omega)
        · exact (q.of (s1.trans s2)).here (List.map_append ..).symm h
      | or c1 c2 =>
        obtain ⟨p, xs, rfl, hs, ha⟩ := dp_tup hv
        obtain ⟨x1, r1, rfl, h1, ha⟩ := dp_cons ha
        obtain ⟨x2, r2, rfl, h2, ha⟩ := dp_cons ha
        obtain ⟨x3, r3, rfl, h3, ha⟩ := dp_cons ha
        obtain rfl := dp_nil ha
        obtain rfl := dp_str h1
        have d1 : c1.deep < n := by
          have z : max c1.deep c2.deep + 1 < n + 1 := hd
          omega
        have d2 : c2.deep < n := by
          have z : max c1.deep c2.deep + 1 < n + 1 := hd
          omega
        have z12 : c1.sz + c2.sz ≤ 1000 := hz
        refine ⟨_, rfl, p, _, 0, _, rfl, rfl, hs, at_of (j := 0) rfl rfl, _, rfl, rfl, _, rfl, ifF (by decide +kernel) ?_⟩
        refine ⟨_, rfl, pc, _, rfl, .inr (hC H), rfl, rfl, _, rfl, ifF (by decide +kernel) ?_⟩
        refine ⟨_, rfl, rfl, _, rfl, ifF (by decide +kernel) ?_⟩
        refine ⟨_, rfl, rfl, _, rfl, ifF (by decide +kernel) ?_⟩
        refine ⟨_, rfl, rfl, _, rfl, ifF (by decide +kernel) ⟨_, rfl, rfl, _, rfl, ifT (by decide +kernel) ?_⟩⟩
        refine ⟨_, rfl, p, _, 1, _, rfl, rfl, hs, at_of (j := 1) rfl rfl, x2, c1, rfl, h2, d1, by omega, fun r1 H1 n1 s1 e1 => ?_⟩
        refine ⟨_, rfl, p, _, 2, _, rfl, rfl, Same.seqT s1 hs, at_of (j := 2) rfl rfl, x3, c2, rfl, Dp.same s1 _ _ h3, d2, by omega, fun r2 H2 n2 s2 e2 => ?_⟩
        refine ⟨r1, r2, _, _, rfl, rfl, s2 _ _ e1, e2, ?_, fun r h => ?_⟩
        · rw [List.length_map, List.length_map]
          have l1 := c1.names_le
          have l2 := c2.names_le
          exact z1000 (by omega)
        · exact (q.of (s1.trans s2)).here (List.map_append ..).symm h
      | each x a c1 =>
        obtain ⟨p, xs, rfl, hs, ha⟩ := dp_tup hv
        obtain ⟨x1, r1, rfl, h1, ha⟩ := dp_cons ha
        obtain ⟨x2, r2, rfl, h2, ha⟩ := dp_cons ha
        obtain ⟨x3, r3, rfl, h3, ha⟩ := dp_cons ha
        obtain ⟨x4, r4, rfl, h4, ha⟩ := dp_cons ha
        obtain rfl := dp_nil ha
        obtain rfl := dp_str h1
        obtain rfl := dp_str h2
        have d1 : c1.deep < n := Nat.lt_of_succ_lt_succ hd
        have z1 : c1.sz + 1 ≤ 1000 := hz
        have l1 := c1.names_le
        refine ⟨_, rfl, p, _, 0, _, rfl, rfl, hs, at_of (j := 0) rfl rfl, _, rfl, rfl, _, rfl, ifF (by decide +kernel) ?_⟩
        refine ⟨_, rfl, pc, _, rfl, .inr (hC H), rfl, rfl, _, rfl, ifF (by decide +kernel) ?_⟩
        refine ⟨_, rfl, rfl, _, rfl, ifF (by decide +kernel) ?_⟩
        refine ⟨_, rfl, rfl, _, rfl, ifF (by decide +kernel) ?_⟩
        refine ⟨_, rfl, rfl, _, rfl, ifF (by decide +kernel) ⟨_, rfl, rfl, _, rfl, ifF (by decide +kernel) ?_⟩⟩
        refine ⟨_, rfl, p, _, 2, _, rfl, rfl, hs, at_of (j := 2) rfl rfl, x3, [a], rfl, .inr ⟨a, rfl, h3⟩, fun r1 H1 n1 s1 e1 => ?_⟩
        refine ⟨_, rfl, p, _, 3, _, rfl, rfl, Same.seqT s1 hs, at_of (j := 3) rfl rfl, x4, c1, rfl, Dp.same s1 _ _ h4, d1, by omega, fun r2 H2 n2 s2 e2 => ?_⟩
        refine ⟨r2, rfl, ⟨_, SqL.of e2⟩, fun D hD => ?_⟩
        have s12 := s1.trans s2
        refine lc_list (K := K) (a := r2) (xs := c1.names.map V.str) (fun i H' => H' = upd H2 D (.lst (((c1.names.take i).filter fun z => !decide (z = x)).map V.str))) rfl
          (fun i H' _ e => by rw [e]; exact SqL.of (by rw [upd_ne (ne_of_none e2 hD)]; exact e2)) ?_ ?_
        · rintro i y H3 hi rfl
          obtain ⟨z, hzi, rfl⟩ := map_at hi
          have ht : c1.names.take (i + 1) = c1.names.take i ++ [z] := by rw [List.take_add_one, hzi]; rfl
          refine ⟨rfl, _, rfl, _, rfl, p, _, 1, _, rfl, rfl, Same.seqT (s12.trans (Same.new hD)) hs, at_of (j := 1) rfl rfl, rfl, _, rfl, ?_⟩
          by_cases hm : z = x
          · refine ifF (by rw [decide_eq_true (by rw [hm])]; rfl) ?_
            show upd H2 D _ = upd H2 D _
            rw [ht, List.filter_append, List.filter_cons_of_neg (by rw [decide_eq_true hm]; exact Bool.noConfusion), List.filter_nil, List.append_nil]
          · refine ifT (by rw [decide_eq_false fun e => hm (V.str.inj e)]; rfl) ?_
            refine ⟨_, rfl, _, upd_same, ?_, ?_⟩
            · rw [List.length_map]
              refine small1000 ?_
              have l2 := List.length_filter_le (fun z => !decide (z = x)) (c1.names.take i)
              have l3 := List.length_take_le' i c1.names
              omega
            · show upd (upd H2 D _) D _ = upd H2 D _
              rw [upd_upd, ht, List.filter_append, List.filter_cons_of_pos (by rw [decide_eq_false hm]; rfl), List.filter_nil, List.map_append]
              rfl
        · rintro H3 rfl
          have s3 : Same H2 (upd H2 D (.lst (((c1.names.take (c1.names.map V.str).length).filter fun z => !decide (z = x)).map V.str))) := Same.new hD
          refine ⟨r1, D, _, _, rfl, rfl, s3 _ _ (s2 _ _ e1), upd_same, ?_, fun r h => ?_⟩
          · rw [List.length_map, List.length_map, List.length_map]
            have l2 := List.length_filter_le (fun z => !decide (z = x)) (c1.names.take c1.names.length)
            have l3 := List.length_take_le' c1.names.length c1.names
            exact z1000 (by show 1 + _ ≤ 2000; omega)
          · refine ((q.of s12).of s3).here ?_ h
            rw [List.length_map, List.take_length]
            rfl
end
end Nc
end

section
set_option maxHeartbeats 4000000
namespace Nc
open PySem PySem.Spec PyProof.Rows L2
/-! look_at_claim, kept_claim, copied -/
theorem tyT {K : PySem.W.Frag} {H : Hp} {p : Addr} {xs : List V} (h : SqT K H p xs) : TyX K H (.ref p) (.type "tuple") := by
  rcases h with (h | ⟨o, h⟩) | ⟨o, its, n, h, c, _⟩
  · exact .base (.tup h)
  · exact .fTuple h
  · exact .kTuple h c
theorem tyL {K : PySem.W.Frag} {H : Hp} {p : Addr} {xs : List V} (h : SqL K H p xs) : TyX K H (.ref p) (.type "list") := by
  rcases h with (h | ⟨o, h⟩) | ⟨o, its, n, h, c, _⟩
  · exact .base (.lst h)
  · exact .base (.frz h)
  · exact .kList h c
theorem hid_mono {ms ns : List Addr} {H : Hp} (h : ∀ a ∈ ns, a ∈ ms) : Same (hid ms H) (hid ns H) := fun b o e => by
  by_cases hb : b ∈ ms
  · unfold hid at e
    rw [if_pos hb] at e
    cases e
  · rw [hid_of hb] at e
    rw [hid_of fun z => hb (h b z)]
    exact e
def spLookAt (K : PySem.W.Frag) : Sp := fun vs H Q E => ∃ (n k l : Addr) (ps : List Str) (ts : List Tie) (ms : List Addr) (v : V) (c : Cl), vs = [.ref n, v] ∧ NetIs K H n k l ps ts ms ∧ Dp K H v c.d ∧ c.deep < 4 ∧ c.sz ≤ 1000 ∧
  (stranger ps c.names = none → ∀ H', Same H H' → Q .non H') ∧ ∀ z, stranger ps c.names = some z → Refuses K (.place z) H E
def spKept0 : Sp := fun vs H Q _ => ∃ z : Str, vs = [.str z] ∧ Q (.str z) H
def NewTup (H : Hp) (l : List Str) (Q : VK) : Prop := ∀ r H', H r = none → Same H H' → H' r = some (.tup (l.map V.str)) → Q (.ref r) H'
def spKept (K : PySem.W.Frag) : Sp := fun vs H Q _ => ∃ (p : Addr) (l : List Str), vs = [.ref p] ∧ SqT K H p (l.map V.str) ∧ l.length ≤ 1000 ∧ NewTup H l Q
/-- papers: texts, numbers, lists of them, so deep -/
def papOk : Nat → PyData → Prop
  | _, .str _ => True
  | _, .int _ => True
  | n + 1, .list ds => ds.length ≤ 1000 ∧ ∀ d ∈ ds, papOk n d
  | _, _ => False
def spCopied (K : PySem.W.Frag) (n : Nat) : Sp := fun vs H Q _ => ∃ (v : V) (d : PyData) (ms : List Addr), vs = [v] ∧ Dp K (hid ms H) v d ∧ (∀ a ∈ ms, ∃ o, H a = some o) ∧ papOk n d ∧ ∀ v' H', Same H H' → Dp K (hid ms H') v' d → Q v' H'
section
variable {P : Program} {w : World} {K : PySem.W.Frag} {mg : Str → Option Value} {base : Heap}
theorem sc_lookAt : FnScope ["net", "claim"] ["net", "claim"] (defScope sLookAtClaim) := ⟨rfl, rfl, rfl, by decide +kernel, rfl, by decide +kernel, by decide +kernel⟩
theorem rd_lookAt (T : Txt K mg) : Rd P w K mg base 8 "look_at_claim" ["net", "claim"] (spLookAt K) := by
  obtain ⟨f1, fd1, G1, g1, k1, b1⟩ := ((rd_refuse (P := P) (w := w) (base := base) T).mono (show 3 ≤ 7 by decide)).ex
  obtain ⟨f2, fd2, G2, g2, k2, b2⟩ := (rd_free (P := P) (w := w) (base := base) T 4).ex
  refine rd_mk T.lookAtClaim (fun _ _ _ _ _ _ us hl => match us, hl with | [_, _], _ => rfl) sc_lookAt (fun vs H Q E h => ?_) (fun f cdv A outer s H vs Q E hr h => ?_)
  · obtain ⟨n, k, l, ps, ts, ms, v, c, rfl, _⟩ := h
    rfl
  · obtain ⟨n, k, l, ps, ts, ms, v, c, rfl, N, hv, hd, hz, q, qE⟩ := h
    refine ⟨_, pss_one (ps_expr (pe_call G1 hr rfl g1 k1 b1 .nil passX (pa_cons (pv 0) (pa_cons (pe_call G2 hr rfl g2 k2 b2 .nil passL (pa_cons (pv 1) pa_nil)) pa_nil)))), ?_⟩
    refine ⟨_, rfl, _, rfl, v, c, rfl, hv, hd, hz, fun r H1 n1 s1 e1 => ?_⟩
    exact ⟨n, k, l, ps, ts, ms, r, c.names, rfl, N.same s1, SqL.of e1, fun h H' s2 => q h H' (s1.trans s2), fun z h => (qE z h).of s1⟩
theorem sc_kept : FnScope ["claim", "one"] ["claim"] (defScope sKept) := ⟨rfl, rfl, rfl, by decide +kernel, rfl, by decide +kernel, by decide +kernel⟩
theorem rd_kept0 (T : Txt K mg) : Rd P w K mg base 1 "kept_claim" ["claim"] spKept0 := by
  refine rd_mk T.kept (fun _ _ _ _ _ _ us hl => match us, hl with | [_], _ => rfl) sc_kept (fun vs H Q E h => ?_) (fun f cdv A outer s H vs Q E hr h => ?_)
  · obtain ⟨z, rfl, _⟩ := h
    rfl
  · obtain ⟨z, rfl, q⟩ := h
    refine ⟨_, pss_cons (ps_if (pt_val (pe_callB call_isi (by rfl) T.isi (by decide +kernel) (pa_cons (pv 0) (pa_cons (pe_bltn (v := .ty "list") (by rfl) T.list boot_list rfl) pa_nil)))) pss_never pss_nil) <|
      pss_cons (ps_if (pt_val (pe_callB call_isi (by rfl) T.isi (by decide +kernel) (pa_cons (pv 0) (pa_cons (pe_bltn (v := .ty "tuple") (by rfl) T.tuple boot_tuple rfl) pa_nil)))) pss_never pss_nil) <| pss_one (ps_ret (pv 0)), ?_⟩
    refine ⟨_, rfl, _, _, _, _, _, rfl, .ty _, .base (.str _), kit_ty (by decide +kernel), _, rfl, ifF rfl ?_⟩
    refine ⟨_, rfl, _, _, _, _, _, rfl, .ty _, .base (.str _), kit_ty (by decide +kernel), _, rfl, ifF rfl ?_⟩
    exact ⟨_, rfl, q⟩
theorem rd_kept (T : Txt K mg) : Rd P w K mg base 2 "kept_claim" ["claim"] (spKept K) := by
  obtain ⟨f1, fd1, G1, g1, k1, b1⟩ := (rd_kept0 (P := P) (w := w) (base := base) T).ex
  refine rd_mk T.kept (fun _ _ _ _ _ _ us hl => match us, hl with | [_], _ => rfl) sc_kept (fun vs H Q E h => ?_) (fun f cdv A outer s H vs Q E hr h => ?_)
  · obtain ⟨p, l, rfl, _⟩ := h
    rfl
  · obtain ⟨p, l, rfl, hs, hz, q⟩ := h
    have nd := sc_kept.nd
    refine ⟨_, pss_cons (ps_if (pt_val (pe_callB call_isi (by rfl) T.isi (by decide +kernel) (pa_cons (pv 0) (pa_cons (pe_bltn (v := .ty "list") (by rfl) T.list boot_list rfl) pa_nil)))) pss_never pss_nil) <|
      pss_cons (ps_if (pt_val (pe_callB call_isi (by rfl) T.isi (by decide +kernel) (pa_cons (pv 0) (pa_cons (pe_bltn (v := .ty "tuple") (by rfl) T.tuple boot_tuple rfl) pa_nil))))
        (pss_one (ps_ret (pe_callTy call_tuple_of rfl T.tuple boot_tuple (pa_cons (pe_lc (own := [("one", 1)]) (g := gName 1) (tt := tYes) (te := tCall spKept0 [] E0 (tCons (tVar 1) tNil)) rfl nd (pi_tup (pv 0))
          (blkOk_by (N := ["claim", "one"]) (sc := defScope sKept) (by decide +kernel)) (fun _ _ _ _ _ => pg_name (i := 1) nd rfl (Or.inl rfl)) (fun _ _ _ _ _ => pts_nil) (fun _ _ _ _ _ => by exact pe_call G1 hr rfl g1 k1 b1 .nil passL (pa_cons (pv 1) pa_nil))) pa_nil)))) pss_nil) <| pss_never, ?_⟩
    refine ⟨_, rfl, _, _, _, _, _, rfl, .ty _, tyT hs, kit_ty (by decide +kernel), _, rfl, ifF rfl ?_⟩
    refine ⟨_, rfl, _, _, _, _, _, rfl, .ty _, tyT hs, kit_ty (by decide +kernel), _, rfl, ifT rfl ?_⟩
    refine ⟨_, rfl, p, rfl, ⟨_, hs⟩, fun D hD => lc_tup (K := K) (a := p) (xs := l.map V.str) (fun i H' => H' = upd H D (.lst ((l.take i).map V.str))) rfl (fun i H' _ e => by rw [e]; exact Same.seqT (Same.new hD) hs) ?_ ?_⟩
    · rintro i x H1 hi rfl
      obtain ⟨z, hzi, rfl⟩ := map_at hi
      have ht : l.take (i + 1) = l.take i ++ [z] := by rw [List.take_add_one, hzi]; rfl
      refine ⟨rfl, ?_⟩
      refine ⟨_, rfl, z, rfl, _, upd_same, ?_, ?_⟩
      · rw [List.length_map]
        exact small1000 (Nat.le_trans (List.length_take_le' ..) hz)
      · show upd (upd H D _) D _ = upd H D _
        rw [upd_upd, ht, List.map_append]
        rfl
    · rintro H1 rfl
      refine ⟨D, _, rfl, .inl ⟨SqL.of upd_same, fun r h => ?_⟩⟩
      refine q r _ ((Same.new hD).free h) ((Same.new hD).trans (Same.new h)) ?_
      rw [upd_same, List.length_map, List.take_length]
theorem sc_copied : FnScope ["paper", "one"] ["paper"] (defScope sCopied) := ⟨rfl, rfl, rfl, by decide +kernel, rfl, by decide +kernel, by decide +kernel⟩
theorem rd_copied0 (T : Txt K mg) : Rd P w K mg base 1 "copied" ["paper"] (spCopied K 0) := by
  refine rd_mk T.copied (fun _ _ _ _ _ _ us hl => match us, hl with | [_], _ => rfl) sc_copied (fun vs H Q E h => ?_) (fun f cdv A outer s H vs Q E hr h => ?_)
  · obtain ⟨v, d, ms, rfl, _⟩ := h
    rfl
  · obtain ⟨v, d, ms, rfl, hv, _, hp, q⟩ := h
    refine ⟨_, pss_cons (ps_if (pt_val (pe_callB call_isi (by rfl) T.isi (by decide +kernel) (pa_cons (pv 0) (pa_cons (pe_bltn (v := .ty "list") (by rfl) T.list boot_list rfl) pa_nil)))) pss_never pss_nil) <| pss_one (ps_ret (pv 0)), ?_⟩
    cases d with
    | str z =>
      obtain rfl := dp_str hv
      exact ⟨_, rfl, _, _, _, _, _, rfl, .ty _, .base (.str _), kit_ty (by decide +kernel), _, rfl, ifF rfl ⟨_, rfl, q _ H (Same.refl H) hv⟩⟩
    | int i =>
      cases id hv
      exact ⟨_, rfl, _, _, _, _, _, rfl, .ty _, .base (.int _), kit_ty (by decide +kernel), _, rfl, ifF rfl ⟨_, rfl, q _ H (Same.refl H) hv⟩⟩
    | _ => exact False.elim hp
theorem rd_copied (T : Txt K mg) : ∀ n, Rd P w K mg base (n + 1) "copied" ["paper"] (spCopied K n)
  | 0 => rd_copied0 T
  | n + 1 => by
    obtain ⟨f1, fd1, G1, g1, k1, b1⟩ := (rd_copied T n).ex
    refine rd_mk T.copied (fun _ _ _ _ _ _ us hl => match us, hl with | [_], _ => rfl) sc_copied (fun vs H Q E h => ?_) (fun f cdv A outer s H vs Q E hr h => ?_)
    · obtain ⟨v, d, ms, rfl, _⟩ := h
      rfl
    · obtain ⟨v, d, ms, rfl, hv, hms, hp, q⟩ := h
      have nd := sc_copied.nd
      refine ⟨_, pss_cons (ps_if (pt_val (pe_callB call_isi (by rfl) T.isi (by decide +kernel) (pa_cons (pv 0) (pa_cons (pe_bltn (v := .ty "list") (by rfl) T.list boot_list rfl) pa_nil))))
        (pss_one (ps_ret (pe_lc (own := [("one", 1)]) (g := gName 1) (tt := tYes) (te := tCall (spCopied K n) [] E0 (tCons (tVar 1) tNil)) rfl nd (pi_list (pv 0))
          (blkOk_by (N := ["paper", "one"]) (sc := defScope sCopied) (by decide +kernel)) (fun _ _ _ _ _ => pg_name (i := 1) nd rfl (Or.inl rfl)) (fun _ _ _ _ _ => pts_nil) (fun _ _ _ _ _ => by exact pe_call G1 hr rfl g1 k1 b1 .nil passL (pa_cons (pv 1) pa_nil))))) pss_nil) <| pss_one (ps_ret (pv 0)), ?_⟩
      cases d with
      | str z =>
        obtain rfl := dp_str hv
        exact ⟨_, rfl, _, _, _, _, _, rfl, .ty _, .base (.str _), kit_ty (by decide +kernel), _, rfl, ifF rfl ⟨_, rfl, q _ H (Same.refl H) hv⟩⟩
      | int i =>
        cases id hv
        exact ⟨_, rfl, _, _, _, _, _, rfl, .ty _, .base (.int _), kit_ty (by decide +kernel), _, rfl, ifF rfl ⟨_, rfl, q _ H (Same.refl H) hv⟩⟩
      | list ds =>
        obtain ⟨p, xs, rfl, hl, ha⟩ := dp_list hv
        obtain ⟨hlen, hall⟩ : ds.length ≤ 1000 ∧ ∀ d ∈ ds, papOk n d := hp
        have hl1 : SqL K H p xs := hid_same.seq hl
        refine ⟨_, rfl, _, _, _, _, _, rfl, .ty _, tyL hl1, kit_ty (by decide +kernel), _, rfl, ifT rfl ?_⟩
        refine ⟨_, rfl, p, rfl, ⟨_, hl1⟩, fun D hD => ?_⟩
        have nD : D ∉ ms := fun z => by
          obtain ⟨o, e⟩ := hms D z
          rw [hD] at e
          cases e
        have lx := ha.length
        refine lc_list (K := K) (a := p) (xs := xs) (fun i H' => ∃ acc, H' D = some (.lst acc) ∧ DpAll K (hid (D :: ms) H') acc (ds.take i) ∧ Same H H') ⟨[], upd_same, .nil, Same.new hD⟩ (fun i H' _ ⟨_, _, _, s⟩ => s.seq hl1) ?_ ?_
        · rintro i x H1 hi ⟨acc, h1, h2, s1⟩
          obtain ⟨d, hdi, hx⟩ := ha.getV hi
          refine ⟨rfl, ?_⟩
          refine ⟨_, rfl, x, d, D :: ms, rfl, Dp.same (fun b o e => ?_) _ _ hx, fun a hm => ?_, hall d (List.mem_of_getElem? hdi), fun v' H2 s2 hv' => ?_⟩
          · have hb : b ∉ ms := fun z => by
              unfold hid at e
              rw [if_pos z] at e
              cases e
            rw [hid_of hb] at e
            rw [hid_of (by intro z; rcases List.mem_cons.mp z with z | z; exact ne_of_none e hD z; exact hb z)]
            exact s1 _ _ e
          · rcases List.mem_cons.mp hm with rfl | hm
            · exact ⟨_, h1⟩
            · obtain ⟨o, e⟩ := hms a hm
              exact ⟨o, s1 _ _ e⟩
          · have la : acc.length ≤ 1000 := by
              rw [h2.length]
              exact Nat.le_trans (List.length_take_le' ..) hlen
            refine ⟨acc, s2 _ _ h1, small1000 la, acc ++ [v'], upd_same, ?_, fun b o e => ?_⟩
            · have e3 : hid (D :: ms) (upd H2 D (.lst (acc ++ [v']))) = hid (D :: ms) H2 := by
                funext b
                by_cases hb : b ∈ D :: ms
                · unfold hid
                  rw [if_pos hb, if_pos hb]
                · rw [hid_of hb, hid_of hb, upd_ne (fun z => hb (by rw [z]; exact List.mem_cons_self))]
              rw [e3, List.take_add_one, hdi]
              exact (DpAll.same s2.but.hid _ _ h2).append (.cons hv' .nil)
            · rw [upd_ne (ne_of_none e hD)]
              exact s2 _ _ (s1 _ _ e)
        · rintro H1 ⟨acc, h1, h2, s1⟩
          rw [lx, List.take_length] at h2
          refine q _ H1 s1 (.lst (SqL.of ?_) (DpAll.same (hid_mono fun a h => List.mem_cons_of_mem _ h) _ _ h2))
          rw [hid_of nD]
          exact h1
      | _ => exact False.elim hp
end
end Nc
end

section
set_option maxHeartbeats 4000000
namespace Nc
open PySem PySem.Spec PyProof.Rows L2
/-! walk_end, look_plain, look_claim (of a way, for) -/
/-- an expression that is never reached -/
theorem pe_no {X : Cx} {e : Expr} : PE X e (fun _ _ _ => False) := ⟨fun _ _ _ _ _ _ h => h.elim⟩
/-- where a walk leads -/
def walkTo (ts : List Tie) : Str → List Str → Option Str
  | a, [] => some a
  | a, nm :: r => match named ts nm with
    | some t => if t.a = a then walkTo ts t.b r else none
    | none => none
def spWalkEnd (K : PySem.W.Frag) : Sp := fun vs H Q _ => ∃ (n k l : Addr) (ps : List Str) (ts : List Tie) (ms : List Addr) (a b : Str) (v : V) (walk : List Str), vs = [.ref n, .str a, v] ∧ NetIs K H n k l ps ts ms ∧
  Dp K H v (.list (walk.map PyData.str)) ∧ walkTo ts a walk = some b ∧ Q (.str b) H
def spLookWay (K : PySem.W.Frag) : Sp := fun vs H Q _ => ∃ (n k l : Addr) (ps : List Str) (ts : List Tie) (ms : List Addr) (a b : Str) (u v : V) (walk : List Str), vs = [.ref n, u, .bl true, v] ∧ NetIs K H n k l ps ts ms ∧
  Dp K H u (Cl.way a b).d ∧ Dp K H v (.list (walk.map PyData.str)) ∧ walkTo ts a walk = some b ∧ Q (.bl true) H
section
variable {P : Program} {w : World} {K : PySem.W.Frag} {mg : Str → Option Value} {base : Heap}
theorem sc_walkEnd : FnScope ["net", "a", "paper", "here", "name", "one"] ["net", "a", "paper"] (defScope sWalkEnd) := ⟨rfl, rfl, rfl, by decide +kernel, rfl, by decide +kernel, by decide +kernel⟩
theorem rd_walkEnd (T : Txt K mg) : Rd P w K mg base 2 "walk_end" ["net", "a", "paper"] (spWalkEnd K) := by
  obtain ⟨f1, fd1, G1, m1, b1⟩ := (rm_named (P := P) (w := w) (base := base) T).ex
  refine rd_mk T.walkEnd (fun _ _ _ _ _ _ us hl => match us, hl with | [_, _, _], _ => rfl) sc_walkEnd (fun vs H Q E h => ?_) (fun f cdv A outer s H vs Q E hr h => ?_)
  · obtain ⟨n, k, l, ps, ts, ms, a, b, v, walk, rfl, _⟩ := h
    rfl
  · obtain ⟨n, k, l, ps, ts, ms, a, b, v, walk, rfl, N, hv, hw, q⟩ := h
    have nd := sc_walkEnd.nd
    obtain ⟨p, xs, rfl, hl, ha⟩ := dp_list hv
    rw [DpAll.strs_inv ha] at hl
    obtain ⟨dx, hn⟩ := N.ob
    refine ⟨_, pss_cons (ps_if (pt_not (pt_val (pe_callB call_isi (by rfl) T.isi (by decide +kernel) (pa_cons (pv 2) (pa_cons (pe_bltn (v := .ty "list") (by rfl) T.list boot_list rfl) pa_nil))))) pss_never pss_nil) <|
      pss_cons (ps_set (i := 3) nd rfl (Or.inl rfl) (pv 1)) <|
      pss_cons (ps_for (passes_of rfl) rfl (pi_list (pv 2)) (pg_name (i := 4) nd rfl (Or.inl rfl)) <|
        pss_cons (ps_set (i := 5) nd rfl (Or.inl rfl) (pe_ifExp (pt_val (pe_callB call_isi (by rfl) T.isi (by decide +kernel) (pa_cons (pv 4) (pa_cons (pe_bltn (v := .ty "str") (by rfl) T.str boot_str rfl) pa_nil)))) (pe_meth (pv 0) T.clN m1 G1 hr b1 .nil passL (pa_cons (pv 4) pa_nil)) pe_non)) <|
        pss_cons (ps_if (PW.pt (pw_or (pt_cmpR op_isN (pv 5) pe_non (nomark _)) (pw_or1 (pt_cmpR op_ne (pe_ix ix_tup (pv 5) pe_int (fun _ _ => rfl)) (pv 3) (nomark _))))) pss_never pss_nil) <|
        pss_one (ps_set (i := 3) nd rfl (Or.inl rfl) (pe_ix ix_tup (pv 5) pe_int (fun _ _ => rfl)))) <|
      pss_one (ps_ret (pv 3)), ?_⟩
    refine ⟨_, rfl, _, _, _, _, true, rfl, .ty _, tyL hl, kit_ty (by decide +kernel), _, rfl, ifF rfl ?_⟩
    refine ⟨_, rfl, ?_⟩
    refine ⟨_, rfl, p, rfl, ⟨_, hl⟩, for_list (K := K) (a := p) (xs := walk.map V.str) (fun i σ H' => H' = H ∧ ∃ (here : Str) (v4 v5 : Option V), σ = [some (.ref n), some (.str a), some (.ref p), some (.str here), v4, v5] ∧ walkTo ts here (walk.drop i) = some b)
      ⟨rfl, a, none, none, rfl, hw⟩ (fun i σ H' _ ⟨e, _⟩ => by rw [e]; exact hl) ?_ ?_⟩
    · rintro i x σ H1 hi ⟨rfl, here, v4, v5, rfl, hw'⟩
      obtain ⟨z, hzi, rfl⟩ := map_at hi
      have hd : walk.drop i = z :: walk.drop (i + 1) := by
        obtain ⟨h1, h2⟩ := List.getElem?_eq_some_iff.mp hzi
        rw [List.drop_eq_getElem_cons h1, h2]
      rw [hd] at hw'
      obtain ⟨t, ht, hta, hrest⟩ : ∃ t, named ts z = some t ∧ t.a = here ∧ walkTo ts t.b (walk.drop (i + 1)) = some b := by
        unfold walkTo at hw'
        split at hw'
        · rename_i t ht
          split at hw'
          · rename_i hta
            exact ⟨t, ht, hta, hw'⟩
          · cases hw'
        · cases hw'
      refine ⟨_, rfl, _, _, _, _, _, rfl, .ty _, .base (.str _), kit_ty (by decide +kernel), _, rfl, ifT rfl ?_⟩
      refine ⟨_, rfl, n, dx, _, rfl, hn, nF_no _ _ (by decide +kernel) (by decide +kernel), _, rfl, n, k, l, ps, ts, ms, z, rfl, N, fun e => ?_, fun t' pt e hs => ?_⟩
      · rw [ht] at e
        cases e
      · rw [ht] at e
        obtain rfl := Option.some.inj e
        have hs1 := Same.seqT hid_same hs
        refine ⟨_, rfl, rfl, _, rfl, ifF rfl ?_⟩
        refine ⟨_, rfl, pt, _, 1, _, rfl, rfl, hs1, at_of (j := 1) rfl rfl, _, rfl, rfl, _, rfl, ifF (by rw [hta]; rw [decide_eq_true rfl]; rfl) ?_⟩
        exact ⟨_, rfl, pt, _, 2, _, rfl, rfl, hs1, at_of (j := 2) rfl rfl, rfl, t.b, _, _, rfl, hrest⟩
    · rintro σ H1 ⟨rfl, here, v4, v5, rfl, hw'⟩
      rw [List.length_map, List.drop_length] at hw'
      obtain rfl : here = b := Option.some.inj hw'
      exact ⟨_, rfl, q⟩
theorem sc_lookPlain : FnScope ["net", "claim", "so", "paper", "word", "a", "b", "k", "x"] ["net", "claim", "so", "paper"] (defScope sLookPlain) := ⟨rfl, rfl, rfl, by decide +kernel, rfl, by decide +kernel, by decide +kernel⟩
theorem rd_lookPlain (T : Txt K mg) : Rd P w K mg base 3 "look_plain" ["net", "claim", "so", "paper"] (spLookWay K) := by
  obtain ⟨f1, fd1, G1, g1, k1, b1⟩ := (rd_walkEnd (P := P) (w := w) (base := base) T).ex
  refine rd_mk T.lookPlain (fun _ _ _ _ _ _ us hl => match us, hl with | [_, _, _, _], _ => rfl) sc_lookPlain (fun vs H Q E h => ?_) (fun f cdv A outer s H vs Q E hr h => ?_)
  · obtain ⟨n, k, l, ps, ts, ms, a, b, u, v, walk, rfl, _⟩ := h
    rfl
  · obtain ⟨n, k, l, ps, ts, ms, a, b, u, v, walk, rfl, N, hu, hv, hw, q⟩ := h
    have nd := sc_lookPlain.nd
    obtain ⟨p, rfl, hs⟩ := dp_strs (l := ["way", a, b]) hu
    refine ⟨_, pss_cons (ps_set (i := 4) nd rfl (Or.inl rfl) (pe_ix ix_tup (pv 1) pe_int (fun _ _ => rfl))) <|
      pss_cons (ps_if (pt_cmpR op_eq (pv 4) pe_str (nomark _)) (pss_one (ps_ret (pe_ifExp (pt_val (pv 2)) (pe_cmpR op_eq (pe_call G1 hr rfl g1 k1 b1 .nil passL (pa_cons (pv 0) (pa_cons (pe_ix ix_tup (pv 1) pe_int (fun _ _ => rfl)) (pa_cons (pv 3) pa_nil)))) (pe_ix ix_tup (pv 1) pe_int (fun _ _ => rfl)) (nomark _)) pe_no))) pss_nil) <| pss_never, ?_⟩
    refine ⟨_, rfl, p, _, 0, _, rfl, rfl, hs, at_of (j := 0) rfl rfl, _, rfl, rfl, _, rfl, ifT (by decide +kernel) ?_⟩
    refine ⟨_, rfl, _, rfl, ifT rfl ?_⟩
    refine ⟨_, rfl, _, rfl, p, _, 1, _, rfl, rfl, hs, at_of (j := 1) rfl rfl, _, rfl, n, k, l, ps, ts, ms, a, b, v, walk, rfl, N, hv, hw, ?_⟩
    refine ⟨_, rfl, p, _, 2, _, rfl, rfl, hs, at_of (j := 2) rfl rfl, rfl, ?_⟩
    show Q (.bl (decide (V.str b = V.str b))) H
    rw [decide_eq_true rfl]
    exact q
theorem sc_lookClaim : FnScope ["net", "claim", "so", "paper", "word"] ["net", "claim", "so", "paper"] (defScope sLookClaim) := ⟨rfl, rfl, rfl, by decide +kernel, rfl, by decide +kernel, by decide +kernel⟩
theorem rd_lookClaim (T : Txt K mg) : Rd P w K mg base 4 "look_claim" ["net", "claim", "so", "paper"] (spLookWay K) := by
  obtain ⟨f1, fd1, G1, g1, k1, b1⟩ := (rd_lookPlain (P := P) (w := w) (base := base) T).ex
  obtain ⟨pc, gC, hC⟩ := T.plain
  refine rd_mk T.lookClaim (fun _ _ _ _ _ _ us hl => match us, hl with | [_, _, _, _], _ => rfl) sc_lookClaim (fun vs H Q E h => ?_) (fun f cdv A outer s H vs Q E hr h => ?_)
  · obtain ⟨n, k, l, ps, ts, ms, a, b, u, v, walk, rfl, _⟩ := h
    rfl
  · obtain ⟨n, k, l, ps, ts, ms, a, b, u, v, walk, rfl, N, hu, hv, hw, q⟩ := h
    have nd := sc_lookClaim.nd
    obtain ⟨p, rfl, hs⟩ := dp_strs (l := ["way", a, b]) hu
    refine ⟨_, pss_cons (ps_set (i := 4) nd rfl (Or.inl rfl) (pe_ix ix_tup (pv 1) pe_int (fun _ _ => rfl))) <|
      pss_cons (ps_if (pt_cmpR op_in_seq (pv 4) (pe_gR gC) (by rfl)) (pss_one (ps_ret (pe_call G1 hr rfl g1 k1 b1 .nil passL (pa_cons (pv 0) (pa_cons (pv 1) (pa_cons (pv 2) (pa_cons (pv 3) pa_nil))))))) pss_nil) <| pss_never, ?_⟩
    refine ⟨_, rfl, p, _, 0, _, rfl, rfl, hs, at_of (j := 0) rfl rfl, _, rfl, pc, _, rfl, .inr (hC H), rfl, rfl, _, rfl, ifT (by decide +kernel) ?_⟩
    exact ⟨_, rfl, _, rfl, _, rfl, _, rfl, n, k, l, ps, ts, ms, a, b, _, v, walk, rfl, N, hu, hv, hw, q⟩
end
end Nc
end

section
set_option maxHeartbeats 4000000
namespace Nc
open PySem PySem.Spec PyProof.Rows L2
/-! come_to, way_past, found_way -/
/-- what come_to has: for each place come to, by which tie; the places in order -/
structure CT where
  g : Str → Option (Option Tie)
  row : List Str
def CT.step (cur : Str) (s : CT) (t : Tie) : CT := if t.a = cur ∧ s.g t.b = none then ⟨fun z => if z = t.b then some (some t) else s.g z, s.row ++ [t.b]⟩ else s
def CT.run (ts : List Tie) : Nat → Nat → CT → Option CT
  | 0, _, _ => none
  | f + 1, i, s => match s.row[i]? with
    | none => some s
    | some cur => run ts f (i + 1) (ts.foldl (CT.step cur) s)
def CT.start (a : Str) : CT := ⟨fun z => if z = a then some none else none, [a]⟩
theorem CT.step_le (cur : Str) (s : CT) (t : Tie) : s.row.length ≤ (CT.step cur s t).row.length := by
  unfold CT.step
  split
  · show s.row.length ≤ (s.row ++ [t.b]).length
    rw [List.length_append]
    omega
  · exact Nat.le_refl _
theorem CT.fold_le (cur : Str) : ∀ (ts : List Tie) (s : CT), s.row.length ≤ (ts.foldl (CT.step cur) s).row.length
  | [], _ => Nat.le_refl _
  | t :: ts, s => Nat.le_trans (CT.step_le cur s t) (CT.fold_le cur ts _)
theorem CT.run_le (ts : List Tie) : ∀ (f i : Nat) (s r : CT), CT.run ts f i s = some r → s.row.length ≤ r.row.length
  | 0, _, _, _, h => by cases h
  | f + 1, i, s, r, h => by
    unfold CT.run at h
    split at h
    · cases h
      exact Nat.le_refl _
    · exact Nat.le_trans (CT.fold_le _ _ _) (CT.run_le ts f (i + 1) _ r h)
/-- the dict's entries are told by g -/
def ByAt (K : PySem.W.Frag) (H : Hp) (kvs : List (Key × V)) (z : Str) : Option (Option Tie) → Prop
  | none => valV kvs (.inr z) = none
  | some none => valV kvs (.inr z) = some .non
  | some (some t) => ∃ p, valV kvs (.inr z) = some (.ref p) ∧ SqT K H p t.vs
def ByRel (K : PySem.W.Frag) (H : Hp) (kvs : List (Key × V)) (g : Str → Option (Option Tie)) : Prop := ∀ z, ByAt K H kvs z (g z)
theorem ByAt.imp {K : PySem.W.Frag} {H H' : Hp} {kvs : List (Key × V)} {z : Str} {o : Option (Option Tie)} (h : ByAt K H kvs z o) (s : ∀ p xs, SqT K H p xs → SqT K H' p xs) : ByAt K H' kvs z o := by
  match o, h with
  | none, h => exact h
  | some none, h => exact h
  | some (some t), ⟨p, h1, h2⟩ => exact ⟨p, h1, s _ _ h2⟩
theorem ByRel.imp {K : PySem.W.Frag} {H H' : Hp} {kvs : List (Key × V)} {g : Str → Option (Option Tie)} (h : ByRel K H kvs g) (s : ∀ p xs, SqT K H p xs → SqT K H' p xs) : ByRel K H' kvs g := fun z => (h z).imp s
theorem ByRel.same {K : PySem.W.Frag} {H H' : Hp} {kvs : List (Key × V)} {g : Str → Option (Option Tie)} (h : ByRel K H kvs g) (s : Same H H') : ByRel K H' kvs g := h.imp fun _ _ => Same.seqT s
theorem ByRel.isSome {K : PySem.W.Frag} {H : Hp} {kvs : List (Key × V)} {g : Str → Option (Option Tie)} (h : ByRel K H kvs g) (z : Str) : (valV kvs (.inr z)).isSome = (g z).isSome := by
  have q := h z
  match e : g z, q with
  | none, q =>
    have q' : valV kvs (.inr z) = none := q
    rw [q']
    rfl
  | some none, q =>
    have q' : valV kvs (.inr z) = some .non := q
    rw [q']
    rfl
  | some (some t), ⟨p, h1, _⟩ =>
    rw [h1]
    rfl
theorem ByRel.put {K : PySem.W.Frag} {H : Hp} {kvs : List (Key × V)} {g : Str → Option (Option Tie)} (h : ByRel K H kvs g) {y : Str} {t : Tie} {p : Addr} (hs : SqT K H p t.vs) :
    ByRel K H (putK kvs (.inr y) (.ref p)) (fun z => if z = y then some (some t) else g z) := fun z => by
  show ByAt K H (putK kvs (.inr y) (.ref p)) z (if z = y then some (some t) else g z)
  by_cases e : z = y
  · rw [if_pos e]
    exact ⟨p, by rw [valV_put, if_pos (by rw [e])], hs⟩
  · rw [if_neg e]
    have q := h z
    have v : valV (putK kvs (.inr y) (.ref p)) (.inr z) = valV kvs (.inr z) := by rw [valV_put, if_neg (fun z' => e (Sum.inr.inj z'))]
    match o : g z, q with
    | none, q => exact v.trans q
    | some none, q => exact v.trans q
    | some (some t'), ⟨p', h1, h2⟩ => exact ⟨p', v.trans h1, h2⟩
theorem putK_len {kvs : List (Key × V)} {k : Key} {v : V} (h : valV kvs k = none) : (putK kvs k v).length = kvs.length + 1 := by
  rw [putK_new v h, List.length_append]
  rfl
def spComeTo (K : PySem.W.Frag) : Sp := fun vs H Q _ => ∃ (n k l : Addr) (ps : List Str) (ts : List Tie) (ms : List Addr) (a : Str) (sh : Addr) (f : Nat) (r : CT), vs = [.ref n, .str a, .bl true, .ref sh] ∧ NetIs K H n k l ps ts ms ∧ H sh = some (.lst []) ∧
  CT.run ts f 0 (CT.start a) = some r ∧ r.row.length ≤ 1000 ∧ ∀ pb H' kvs, H pb = none → Same H H' → H' pb = some (.dK kvs) → ByRel K H' kvs r.g → Q (.ref pb) H'
def wayBack (g : Str → Option (Option Tie)) (a : Str) : Nat → Str → List Str → Option (List Str)
  | 0, _, _ => none
  | f + 1, b, acc => if b = a then some acc else match g b with
    | some (some t) => wayBack g a f t.a (acc ++ [t.name])
    | _ => none
/-- a found walk -/
def wayOf (ts : List Tie) (a b : Str) (walk : List Str) : Prop := ∃ (f : Nat) (r : CT) (m : Nat) (acc : List Str), CT.run ts f 0 (CT.start a) = some r ∧ r.row.length ≤ 1000 ∧ (r.g b).isSome = true ∧ wayBack r.g a m b [] = some acc ∧ acc.length ≤ 1000 ∧ walk = acc.reverse
def spWayPast (K : PySem.W.Frag) : Sp := fun vs H Q _ => ∃ (n k l : Addr) (ps : List Str) (ts : List Tie) (ms : List Addr) (a b : Str) (sh : Addr) (walk : List Str), vs = [.ref n, .str a, .str b, .ref sh] ∧ NetIs K H n k l ps ts ms ∧ H sh = some (.lst []) ∧ wayOf ts a b walk ∧ NewStrs H walk Q
/-- a new thing that tells d, apart from all that was known -/
def Fresh (K : PySem.W.Frag) (H : Hp) (d : PyData) (Q : VK) : Prop := ∀ v H', Same H H' → (∀ ms, (∀ a ∈ ms, ∃ o, H a = some o) → Dp K (hid ms H') v d) → Q v H'
def spFoundWay (K : PySem.W.Frag) : Sp := fun vs H Q _ => ∃ (n k l : Addr) (ps : List Str) (ts : List Tie) (ms : List Addr) (a b : Str) (walk : List Str), vs = [.ref n, .str a, .str b] ∧ NetIs K H n k l ps ts ms ∧ wayOf ts a b walk ∧ Fresh K H (.tuple [.bool true, .list (walk.map PyData.str)]) Q
section
variable {P : Program} {w : World} {K : PySem.W.Frag} {mg : Str → Option Value} {base : Heap}
theorem sc_comeTo : FnScope ["net", "a", "forth", "shut", "by", "row", "at", "tie", "here", "there"] ["net", "a", "forth", "shut"] (defScope sComeTo) := ⟨rfl, rfl, rfl, by decide +kernel, rfl, by decide +kernel, by decide +kernel⟩
theorem rd_comeTo (T : Txt K mg) : Rd P w K mg base 2 "come_to" ["net", "a", "forth", "shut"] (spComeTo K) := by
  obtain ⟨f1, fd1, G1, m1, b1⟩ := (rm_ties (P := P) (w := w) (base := base) T).ex
  refine rd_mk T.comeTo (fun _ _ _ _ _ _ us hl => match us, hl with | [_, _, _, _], _ => rfl) sc_comeTo (fun vs H Q E h => ?_) (fun f cdv A outer s H vs Q E hr h => ?_)
  · obtain ⟨n, k, l, ps, ts, ms, a, sh, fu, r, rfl, _⟩ := h
    rfl
  · obtain ⟨n, k, l, ps, ts, ms, a, sh, fu, r, rfl, N, hsh, hrun, hrow, q⟩ := h
    have nd := sc_comeTo.nd
    have hu := hu_of hr
    refine ⟨_, pss_cons (ps_set (i := 4) nd rfl (Or.inl rfl) (pe_disp (pps_cons (pv 1) pe_non pps_nil) (by rfl) (by rfl) (fun z => by cases z) (by decide))) <|
      pss_cons (ps_set (i := 5) nd rfl (Or.inl rfl) (pe_lst (pa_cons (pv 1) pa_nil))) <|
      pss_cons (ps_set (i := 6) nd rfl (Or.inl rfl) pe_int) <|
      pss_cons (ps_while (passes_of rfl) (pt_cmpR op_lt (pv 6) (pe_callB call_len_seq (by rfl) T.len PySem.boot_len (pa_cons (pv 5) pa_nil)) (nomark _)) <|
        pss_cons (ps_for (passes_of rfl) rfl (pi_list (pe_meth0 (pv 0) T.clN m1 G1 hr b1 .nil passL)) (pg_name (i := 7) nd rfl (Or.inl rfl)) <|
          pss_cons (ps_asg (pe_ifExp (pt_val (pv 2)) (pe_tup (pa_cons (pe_ix ix_tup (pv 7) pe_int (fun _ _ => rfl)) (pa_cons (pe_ix ix_tup (pv 7) pe_int (fun _ _ => rfl)) pa_nil))) pe_no)
            (pg_tup (by rfl) (pgs_cons (pg_name (i := 8) nd rfl (Or.inl rfl)) (pgs_cons (pg_name (i := 9) nd rfl (Or.inl rfl)) pgs_nil)))) <|
          pss_one (ps_if (PW.pt (pw_and (pt_cmpR op_eq (pv 8) (pe_ix ix_list (pv 5) (pv 6) (fun _ _ => rfl)) (nomark _)) (pw_and (pt_cmp (pc_dnotin hu (pv 9) (pv 4)) (by rfl)) (pw_and1 (pt_cmpR op_notIn_seq (pv 9) (pv 3) (by rfl))))))
            (pss_cons (ps_dput hu (pv 4) (pv 9) (pv 7) rfl) <| pss_one (ps_expr (pe_bm PySem.F.plainAttrs_list PySem.F.slot_list_append PySem.F.type_list_append mt_append (pv 5) (pa_cons (pv 9) pa_nil)))) pss_nil)) <|
        pss_one (ps_aug (i := 6) nd rfl (Or.inl rfl) pe_int ip_add)) <|
      pss_one (ps_ret (pv 4)), ?_⟩
    -- by = {a: None}
    intro pb hpb
    refine ⟨_, rfl, upd_same, [(.inr a, .non)], rfl, (by show 1 ≤ 15; decide), ?_⟩
    have e1 : upd (upd H pb (.dK [])) pb (.dK (mergeK [] [((.inr a : Key), V.non)])) = upd H pb (.dK [((.inr a : Key), V.non)]) := by rw [upd_upd]; rfl
    rw [e1]
    -- row = [a]
    refine ⟨_, rfl, (by show 1 ≤ sizeLine; decide), fun pr hpr => ?_⟩
    have nbr : pb ≠ pr := ne_of_none upd_same hpr
    have hpr0 : H pr = none := by
      rw [upd_ne nbr.symm] at hpr
      exact hpr
    have s0 : Same H (upd (upd H pb (.dK [((.inr a : Key), V.non)])) pr (.lst [.str a])) := (Same.new hpb).trans (Same.new hpr)
    refine ⟨fun m σ H' => ∃ (i : Nat) (c : CT) (kvs : List (Key × V)) (v7 v8 v9 : Option V), σ = [some (.ref n), some (.str a), some (.bl true), some (.ref sh), some (.ref pb), some (.ref pr), some (.int i), v7, v8, v9] ∧
      H' pb = some (.dK kvs) ∧ H' pr = some (.lst (c.row.map V.str)) ∧ ByRel K H' kvs c.g ∧ kvs.length = c.row.length ∧ Same H H' ∧ CT.run ts m i c = some r, ⟨fu, 0, CT.start a, _, none, none, none, rfl, by rw [upd_ne nbr]; exact upd_same, upd_same, ?_, rfl, s0, hrun⟩, ?_⟩
    · intro z
      show ByAt K _ [((.inr a : Key), V.non)] z (if z = a then some none else none)
      by_cases e : z = a
      · rw [if_pos e]
        show valV [((.inr a : Key), V.non)] (.inr z) = some .non
        rw [valV_pos (by rw [e])]
      · rw [if_neg e]
        show valV [((.inr a : Key), V.non)] (.inr z) = none
        rw [valV_neg (fun z' => e (Sum.inr.inj z').symm)]
        rfl
    rintro m σ H1 ⟨i, c, kvs, v7, v8, v9, rfl, hb, hrw, rel, hlen, s1, hr1⟩
    refine ⟨_, rfl, _, rfl, pr, _, rfl, .inl (SqL.of hrw), _, _, rfl, rfl, _, rfl, ?_⟩
    rw [List.length_map]
    cases m with
    | zero => cases hr1
    | succ m =>
      unfold CT.run at hr1
      by_cases hi : i < c.row.length
      case neg =>
        refine ifF (decide_eq_false (by omega)) ?_
        rw [List.getElem?_eq_none (by omega)] at hr1
        obtain rfl := Option.some.inj hr1
        exact ⟨_, rfl, q pb H1 kvs hpb s1 hb rel⟩
      obtain ⟨cur, hcur⟩ : ∃ cur, c.row[i]? = some cur := ⟨c.row[i], List.getElem?_eq_getElem hi⟩
      rw [hcur] at hr1
      have hr2 : CT.run ts m (i + 1) (ts.foldl (CT.step cur) c) = some r := hr1
      have lrow := CT.run_le ts _ _ _ _ hr2
      refine ifT (decide_eq_true (by omega)) ?_
      refine ⟨fun σ' H' => ∃ (c' : CT) (kvs' : List (Key × V)) (v7 v8 v9 : Option V), σ' = [some (.ref n), some (.str a), some (.bl true), some (.ref sh), some (.ref pb), some (.ref pr), some (.int (i + 1 : Nat)), v7, v8, v9] ∧
        H' pb = some (.dK kvs') ∧ H' pr = some (.lst (c'.row.map V.str)) ∧ ByRel K H' kvs' c'.g ∧ kvs'.length = c'.row.length ∧ Same H H' ∧ CT.run ts m (i + 1) c' = some r, ?_, ?_⟩
      · rintro σ' H' ⟨c', kvs', v7, v8, v9, rfl, h1, h2, h3, h4, h5, h6⟩
        exact ⟨m, Nat.lt_succ_self m, i + 1, c', kvs', v7, v8, v9, rfl, h1, h2, h3, h4, h5, h6⟩
      -- for tie in net.ties()
      have N1 := N.same s1
      obtain ⟨dx, hn⟩ := N1.ob
      refine ⟨_, rfl, n, dx, _, rfl, hn, nF_no _ _ (by decide +kernel) (by decide +kernel), n, k, l, ps, ts, ms, rfl, N1, fun pl tvs H2 npl s2 hpl ha => ?_⟩
      have aD : DpAll K H2 tvs (ts.map Tie.d) := DpAll.same hid_same _ _ ha
      have ltv : tvs.length = ts.length := by rw [ha.length, List.length_map]
      have npb : pb ≠ pl := ne_of_none hb npl
      have npr : pr ≠ pl := ne_of_none hrw npl
      refine ⟨pl, rfl, ⟨_, SqL.of hpl⟩, for_list (K := K) (a := pl) (xs := tvs) (fun j σ' H' => ∃ (kvs' : List (Key × V)) (v7 v8 v9 : Option V), σ' = [some (.ref n), some (.str a), some (.bl true), some (.ref sh), some (.ref pb), some (.ref pr), some (.int i), v7, v8, v9] ∧
          H' pb = some (.dK kvs') ∧ H' pr = some (.lst (((ts.take j).foldl (CT.step cur) c).row.map V.str)) ∧ ByRel K H' kvs' ((ts.take j).foldl (CT.step cur) c).g ∧ kvs'.length = ((ts.take j).foldl (CT.step cur) c).row.length ∧
          SameBut [pb, pr] H2 H') ⟨kvs, v7, v8, v9, rfl, s2 _ _ hb, s2 _ _ hrw, rel.same s2, hlen, (Same.refl H2).but⟩ (fun j σ' H' _ ⟨_, _, _, _, _, _, _, _, _, sb⟩ => SqL.of (sb _ _ hpl (by simp [npb.symm, npr.symm]))) ?_ ?_⟩
      · rintro j x σ' H3 hj ⟨kvs', v7', v8', v9', rfl, h1, h2, h3, h4, sb⟩
        obtain ⟨t, p, ht, rfl, hs2⟩ := tie_at aD hj
        have nof : ∀ xs, H2 pb ≠ some (.tup xs) := fun xs z => by
          rw [s2 _ _ hb] at z
          cases z
        have nof2 : ∀ xs, H2 pr ≠ some (.tup xs) := fun xs z => by
          rw [s2 _ _ hrw] at z
          cases z
        have nof3 : ∀ o u, H2 pb ≠ some (.frz o u) := fun o u z => by
          rw [s2 _ _ hb] at z
          cases z
        have nof4 : ∀ o u, H2 pr ≠ some (.frz o u) := fun o u z => by
          rw [s2 _ _ hrw] at z
          cases z
        have tupK : ∀ {H4 : Hp} {p : Addr} {xs : List V}, SameBut [pb, pr] H2 H4 → SqT K H2 p xs → SqT K H4 p xs := fun {H4 p xs} sb' hs => by
          rcases hs with (hs | ⟨o, hs⟩) | hs
          · exact .inl (.inl (sb' _ _ hs (by intro z; simp only [List.mem_cons, List.not_mem_nil, or_false] at z; rcases z with z | z <;> subst z <;> first | exact nof _ hs | exact nof2 _ hs)))
          · exact .inl (.inr ⟨o, sb' _ _ hs (by intro z; simp only [List.mem_cons, List.not_mem_nil, or_false] at z; rcases z with z | z <;> subst z <;> first | exact nof3 _ _ hs | exact nof4 _ _ hs)⟩)
          · exact .inr hs
        have hs3 : SqT K H3 p t.vs := tupK sb hs2
        have tk : ts.take (j + 1) = ts.take j ++ [t] := by rw [List.take_add_one, ht]; rfl
        obtain ⟨c3, hc3⟩ : ∃ c3, c3 = (ts.take j).foldl (CT.step cur) c := ⟨_, rfl⟩
        have hc4 : (ts.take (j + 1)).foldl (CT.step cur) c = CT.step cur c3 t := by rw [tk, List.foldl_append, ← hc3]; rfl
        rw [← hc3] at h2 h3 h4
        rw [hc4]
        have lc3 : (CT.step cur c3 t).row.length ≤ r.row.length := by
          rw [← hc4]
          refine Nat.le_trans ?_ lrow
          conv => rhs; rw [← List.take_append_drop (j + 1) ts, List.foldl_append]
          exact CT.fold_le _ _ _
        have lc3' := CT.step_le cur c3 t
        have hci : c3.row[i]? = some cur := by
          have key : ∀ (us : List Tie) (c0 : CT), c0.row[i]? = some cur → (us.foldl (CT.step cur) c0).row[i]? = some cur := by
            intro us
            induction us with
            | nil => exact fun _ h => h
            | cons u us ih =>
              intro c0 h
              refine ih _ ?_
              unfold CT.step
              split
              · show (c0.row ++ [u.b])[i]? = some cur
                rw [List.getElem?_append_left (List.getElem?_eq_some_iff.mp h).1]
                exact h
              · exact h
          rw [hc3]
          exact key _ _ hcur
        -- here, there = ..
        refine ⟨_, rfl, _, rfl, ifT rfl ?_⟩
        refine ⟨_, rfl, p, _, 1, _, rfl, rfl, hs3, at_of (j := 1) rfl rfl, _, rfl, p, _, 2, _, rfl, rfl, hs3, at_of (j := 2) rfl rfl, (by show 2 ≤ sizeLine; decide), fun pt hpt => ?_⟩
        have s4 : Same H3 (upd H3 pt (.tup [.str t.a, .str t.b])) := Same.new hpt
        refine ⟨pt, _, rfl, SqT.of upd_same, rfl, _, _, rfl, _, _, rfl, rfl, ?_⟩
        generalize upd H3 pt (.tup [.str t.a, .str t.b]) = H4 at s4 ⊢
        have h14 := s4 _ _ h1
        have h24 := s4 _ _ h2
        have sb4 : SameBut [pb, pr] H2 H4 := sb.trans s4.but
        have rel4 := h3.same s4
        have nsb : sh ≠ pb := ne_of_none hsh hpb
        have nsr : sh ≠ pr := ne_of_none hsh hpr0
        have hsh4 : H4 sh = some (.lst []) := sb4 _ _ (s2 _ _ (s1 _ _ hsh)) (by simp [nsb, nsr])
        -- here == row[at]
        refine ⟨_, rfl, _, rfl, _, rfl, pr, _, i, _, rfl, rfl, SqL.of h24, at_of (j := i) rfl (by rw [List.getElem?_map, hci]; rfl), rfl, _, rfl, ?_⟩
        by_cases hta : t.a = cur
        case neg =>
          have es : CT.step cur c3 t = c3 := by unfold CT.step; rw [if_neg (fun z => hta z.1)]
          refine ifF (decide_eq_false fun z => hta (V.str.inj z)) (ifF rfl ?_)
          rw [es]
          exact ⟨kvs', _, _, _, rfl, h14, h24, rel4, h4, sb4⟩
        refine ifT (decide_eq_true (by rw [hta])) ?_
        -- there not in by
        refine ⟨_, rfl, _, rfl, pb, _, rfl, DGet.k (k := Sum.inr t.b) h14, _, rfl, ?_⟩
        have eS := rel4.isSome t.b
        cases eg : c3.g t.b with
        | some o =>
          have es : CT.step cur c3 t = c3 := by unfold CT.step; rw [if_neg (fun z => by have z2 := z.2; rw [eg] at z2; cases z2)]
          refine ifF (by rw [eS, eg]; rfl) (ifF rfl ?_)
          rw [es]
          exact ⟨kvs', _, _, _, rfl, h14, h24, rel4, h4, sb4⟩
        | none =>
          have hvn : valV kvs' (.inr t.b) = none := by
            have z := rel4 t.b
            rw [eg] at z
            exact z
          have es : CT.step cur c3 t = ⟨fun z => if z = t.b then some (some t) else c3.g z, c3.row ++ [t.b]⟩ := by unfold CT.step; rw [if_pos ⟨hta, eg⟩]
          refine ifT (by rw [eS, eg]; rfl) ?_
          refine ⟨_, rfl, _, rfl, sh, _, rfl, .inl (SqL.of hsh4), rfl, rfl, _, rfl, ifT rfl ?_⟩
          -- by[there] = tie
          refine ⟨_, rfl, _, rfl, _, rfl, pb, _, rfl, DPut.k (k := Sum.inr t.b) h14 (by rw [h4]; exact small1000 (by omega)), ?_⟩
          refine ⟨_, rfl, .inl ⟨rfl, _, SqL.of (by rw [upd_ne nbr.symm]; exact h24)⟩, _, rfl, pr, _, _, rfl, rfl, (by rw [upd_ne nbr.symm]; exact h24), (by rw [List.length_map]; exact small1000 (by omega)), ?_⟩
          have sb5 : SameBut [pb, pr] H4 (upd (upd H4 pb (.dK (putK kvs' (.inr t.b) (.ref p)))) pr (.lst (c3.row.map V.str ++ [.str t.b]))) := (((Same.refl H4).but).upd (by simp)).upd (by simp)
          have sb6 := sb4.trans sb5
          rw [es]
          refine ⟨putK kvs' (.inr t.b) (.ref p), _, _, _, rfl, by rw [upd_ne nbr, upd_same], by rw [upd_same, List.map_append]; rfl, ?_, by rw [putK_len hvn, h4, List.length_append]; rfl, sb6⟩
          refine (rel4.put (tupK sb4 hs2)).imp fun x xs hx => ?_
          have k1 : ∀ u, H4 x = some u → (∀ z, u ≠ .dK z) → (∀ z, u ≠ .lst z) → upd (upd H4 pb (.dK (putK kvs' (.inr t.b) (.ref p)))) pr (.lst (c3.row.map V.str ++ [.str t.b])) x = some u := fun u e n1 n2 => by
            rw [upd_ne (ne_of e h24 (n2 _)), upd_ne (ne_of e h14 (n1 _))]
            exact e
          rcases hx with (hx | ⟨o, hx⟩) | hx
          · exact .inl (.inl (k1 _ hx (fun _ z => nomatch z) (fun _ z => nomatch z)))
          · exact .inl (.inr ⟨o, k1 _ hx (fun _ z => nomatch z) (fun _ z => nomatch z)⟩)
          · exact .inr hx
      · rintro σ' H3 ⟨kvs', v7', v8', v9', rfl, h1, h2, h3, h4, sb⟩
        rw [ltv, List.take_length] at h2 h3 h4
        refine ⟨_, rfl, _, _, rfl, rfl, ?_⟩
        exact ⟨_, kvs', v7', v8', v9', rfl, h1, h2, h3, h4, fun x o e => sb x o (s2 _ _ (s1 _ _ e)) (by simp [ne_of_none e hpb, ne_of_none e hpr0]), hr2⟩
end
end Nc
end

section
set_option maxHeartbeats 4000000
namespace Nc
open PySem PySem.Spec PyProof.Rows L2
/-! way_past, found_way -/
theorem back_le (g : Str → Option (Option Tie)) (a : Str) : ∀ (m : Nat) (b : Str) (x y : List Str), wayBack g a m b x = some y → x.length ≤ y.length
  | 0, _, _, _, h => by cases h
  | m + 1, b, x, y, h => by
    unfold wayBack at h
    split at h
    · cases h
      exact Nat.le_refl _
    · split at h
      · have z := back_le g a m _ _ _ h
        rw [List.length_append] at z
        omega
      · cases h
theorem known_not {H : Hp} {ms : List Addr} (k : ∀ a ∈ ms, ∃ o, H a = some o) {r : Addr} (h : H r = none) : r ∉ ms := fun z => by
  obtain ⟨o, e⟩ := k r z
  rw [h] at e
  cases e
section
variable {P : Program} {w : World} {K : PySem.W.Frag} {mg : Str → Option Value} {base : Heap}
theorem sc_wayPast : FnScope ["net", "a", "b", "shut", "by", "walk"] ["net", "a", "b", "shut"] (defScope sWayPast) := ⟨rfl, rfl, rfl, by decide +kernel, rfl, by decide +kernel, by decide +kernel⟩
theorem rd_wayPast (T : Txt K mg) : Rd P w K mg base 3 "way_past" ["net", "a", "b", "shut"] (spWayPast K) := by
  obtain ⟨f1, fd1, G1, g1, k1, b1⟩ := (rd_comeTo (P := P) (w := w) (base := base) T).ex
  refine rd_mk T.wayPast (fun _ _ _ _ _ _ us hl => match us, hl with | [_, _, _, _], _ => rfl) sc_wayPast (fun vs H Q E h => ?_) (fun f cdv A outer s H vs Q E hr h => ?_)
  · obtain ⟨n, k, l, ps, ts, ms, a, b, sh, walk, rfl, _⟩ := h
    rfl
  · obtain ⟨n, k, l, ps, ts, ms, a, b, sh, walk, rfl, N, hsh, ⟨fu, r, m, acc, hrun, hrow, hsome, hback, hacc, rfl⟩, q⟩ := h
    have nd := sc_wayPast.nd
    have hu := hu_of hr
    refine ⟨_, pss_cons (ps_set (i := 4) nd rfl (Or.inl rfl) (pe_call G1 hr rfl g1 k1 b1 .nil passL (pa_cons (pv 0) (pa_cons (pv 1) (pa_cons pe_bl (pa_cons (pv 3) pa_nil)))))) <|
      pss_cons (ps_if (pt_cmp (pc_dnotin hu (pv 2) (pv 4)) (by rfl)) pss_never pss_nil) <|
      pss_cons (ps_set (i := 5) nd rfl (Or.inl rfl) (pe_lst pa_nil)) <|
      pss_cons (ps_while (passes_of rfl) (pt_cmpR op_ne (pv 2) (pv 1) (nomark _)) <|
        pss_cons (ps_expr (pe_bm PySem.F.plainAttrs_list PySem.F.slot_list_append PySem.F.type_list_append mt_append (pv 5) (pa_cons (pe_ix ix_tup (pe_dget hu (pv 4) (pv 2) (fun _ _ => rfl)) pe_int (fun _ _ => rfl)) pa_nil))) <|
        pss_one (ps_set (i := 2) nd rfl (Or.inl rfl) (pe_ix ix_tup (pe_dget hu (pv 4) (pv 2) (fun _ _ => rfl)) pe_int (fun _ _ => rfl)))) <|
      pss_cons (ps_expr (pe_bm0 PySem.F.plainAttrs_list PySem.F.slot_list_reverse PySem.F.type_list_reverse mt_reverse (pv 5))) <|
      pss_one (ps_ret (pv 5)), ?_⟩
    refine ⟨_, rfl, _, rfl, _, rfl, n, k, l, ps, ts, ms, a, sh, fu, r, rfl, N, hsh, hrun, hrow, fun pb H1 kvs npb s1 hb rel => ?_⟩
    refine ⟨_, rfl, _, rfl, pb, _, rfl, DGet.k (k := Sum.inr b) hb, _, rfl, ifF (by rw [rel.isSome, hsome]; rfl) ?_⟩
    refine ⟨(by show 0 ≤ sizeLine; decide), fun pw hpw => ?_⟩
    have nbw : pb ≠ pw := ne_of_none hb hpw
    have hw0 : H pw = none := s1.free hpw
    refine ⟨fun m σ H' => ∃ (cur : Str) (acc0 : List Str), σ = [some (.ref n), some (.str a), some (.str cur), some (.ref sh), some (.ref pb), some (.ref pw)] ∧ H' pb = some (.dK kvs) ∧ H' pw = some (.lst (acc0.map V.str)) ∧ ByRel K H' kvs r.g ∧ Same H H' ∧ wayBack r.g a m cur acc0 = some acc,
      ⟨m, b, [], rfl, by rw [upd_ne nbw]; exact hb, upd_same, rel.same (Same.new hpw), s1.trans (Same.new hpw), hback⟩, ?_⟩
    rintro m1 σ H2 ⟨cur, acc0, rfl, h1, h2, rel2, s2, hb2⟩
    have lacc := back_le _ _ _ _ _ _ hb2
    refine ⟨_, rfl, _, rfl, rfl, _, rfl, ?_⟩
    cases m1 with
    | zero => cases hb2
    | succ m1 =>
      unfold wayBack at hb2
      by_cases e : cur = a
      · rw [if_pos e] at hb2
        obtain rfl := Option.some.inj hb2
        refine ifF (by rw [decide_eq_true (by rw [e])]; rfl) ?_
        refine ⟨_, rfl, .inl ⟨rfl, _, SqL.of h2⟩, pw, _, rfl, rfl, h2, ?_⟩
        refine ⟨_, rfl, ?_⟩
        refine q pw _ hw0 (fun x o ex => ?_) (by rw [upd_same, List.map_reverse])
        rw [upd_ne (ne_of_none ex hw0)]
        exact s2 _ _ ex
      · rw [if_neg e] at hb2
        refine ifT (by rw [decide_eq_false fun z => e (V.str.inj z)]; rfl) ?_
        have rc := rel2 cur
        match eg : r.g cur, rc, hb2 with
        | none, _, hb2 => cases hb2
        | some none, _, hb2 => cases hb2
        | some (some t), ⟨pt, hv, hs⟩, hb2 =>
          have dg : DGet H2 pb (.str cur) (some (.ref pt)) := by
            have z := DGet.k (k := Sum.inr cur) h1
            rw [hv] at z
            exact z
          refine ⟨fun σ' H' => ∃ (cur : Str) (acc0 : List Str), σ' = [some (.ref n), some (.str a), some (.str cur), some (.ref sh), some (.ref pb), some (.ref pw)] ∧ H' pb = some (.dK kvs) ∧ H' pw = some (.lst (acc0.map V.str)) ∧ ByRel K H' kvs r.g ∧ Same H H' ∧ wayBack r.g a m1 cur acc0 = some acc,
            fun σ' H' z => ⟨m1, Nat.lt_succ_self m1, z⟩, ?_⟩
          refine ⟨_, rfl, .inl ⟨rfl, _, SqL.of h2⟩, _, rfl, _, rfl, pb, _, rfl, dg, pt, _, 0, _, rfl, rfl, hs, at_of (j := 0) rfl rfl, pw, _, _, rfl, rfl, h2, (by rw [List.length_map]; exact small1000 (by omega)), ?_⟩
          have h1' : upd H2 pw (.lst (acc0.map V.str ++ [.str t.name])) pb = some (.dK kvs) := by rw [upd_ne nbw]; exact h1
          have tupK : ∀ x xs, SqT K H2 x xs → SqT K (upd H2 pw (.lst (acc0.map V.str ++ [.str t.name]))) x xs := fun x xs hx => by
            rcases hx with (hx | ⟨o, hx⟩) | hx
            · exact .inl (.inl (by rw [upd_ne (ne_of hx h2 (fun z => nomatch z))]; exact hx))
            · exact .inl (.inr ⟨o, by rw [upd_ne (ne_of hx h2 (fun z => nomatch z))]; exact hx⟩)
            · exact .inr hx
          have dg' : DGet (upd H2 pw (.lst (acc0.map V.str ++ [.str t.name]))) pb (.str cur) (some (.ref pt)) := by
            have z := DGet.k (k := Sum.inr cur) h1'
            rw [hv] at z
            exact z
          refine ⟨_, rfl, _, rfl, pb, _, rfl, dg', pt, _, 1, _, rfl, rfl, tupK _ _ hs, at_of (j := 1) rfl rfl, ?_⟩
          refine ⟨t.a, acc0 ++ [t.name], rfl, h1', by rw [upd_same, List.map_append]; rfl, rel2.imp tupK, fun x o ex => ?_, hb2⟩
          rw [upd_ne (ne_of_none ex hw0)]
          exact s2 _ _ ex
theorem sc_foundWay : FnScope ["net", "a", "b", "walk"] ["net", "a", "b"] (defScope sFoundWay) := ⟨rfl, rfl, rfl, by decide +kernel, rfl, by decide +kernel, by decide +kernel⟩
theorem rd_foundWay (T : Txt K mg) : Rd P w K mg base 4 "found_way" ["net", "a", "b"] (spFoundWay K) := by
  obtain ⟨f1, fd1, G1, g1, k1, b1⟩ := (rd_wayPast (P := P) (w := w) (base := base) T).ex
  refine rd_mk T.foundWay (fun _ _ _ _ _ _ us hl => match us, hl with | [_, _, _], _ => rfl) sc_foundWay (fun vs H Q E h => ?_) (fun f cdv A outer s H vs Q E hr h => ?_)
  · obtain ⟨n, k, l, ps, ts, ms, a, b, walk, rfl, _⟩ := h
    rfl
  · obtain ⟨n, k, l, ps, ts, ms, a, b, walk, rfl, N, hw, q⟩ := h
    have nd := sc_foundWay.nd
    refine ⟨_, pss_cons (ps_set (i := 3) nd rfl (Or.inl rfl) (pe_call G1 hr rfl g1 k1 b1 .nil passL (pa_cons (pv 0) (pa_cons (pv 1) (pa_cons (pv 2) (pa_cons (pe_lst pa_nil) pa_nil)))))) <|
      pss_cons (ps_if (pt_cmpR op_notN (pv 3) pe_non (nomark _)) (pss_one (ps_ret (pe_tup (pa_cons pe_bl (pa_cons (pv 3) pa_nil))))) pss_nil) <| pss_never, ?_⟩
    refine ⟨_, rfl, _, rfl, _, rfl, (by show 0 ≤ sizeLine; decide), fun sh hsh => ?_⟩
    refine ⟨n, k, l, ps, ts, ms, a, b, sh, walk, rfl, N.same (Same.new hsh), upd_same, hw, fun pw H1 hpw s1 h1 => ?_⟩
    have sH : Same H H1 := (Same.new hsh).trans s1
    refine ⟨_, rfl, rfl, _, rfl, ifT rfl ?_⟩
    refine ⟨_, rfl, (by show 2 ≤ sizeLine; decide), fun r hr' => ?_⟩
    refine q (.ref r) _ (sH.trans (Same.new hr')) fun ms' hk => ?_
    have n1 : r ∉ ms' := known_not hk (sH.free hr')
    have n2 : pw ∉ ms' := known_not hk ((Same.new hsh).free hpw)
    refine .tup (SqT.of (by rw [hid_of n1]; exact upd_same)) (.cons (.bl true) (.cons (.lst (SqL.of (by rw [hid_of n2, upd_ne (ne_of_none h1 hr')]; exact h1)) (DpAll.strs walk)) .nil))
end
end Nc
end

section
set_option maxHeartbeats 4000000
namespace Nc
open PySem PySem.Spec PyProof.Rows L2
/-! lowered, settled, found_ring -/
/-- a price lowered along a tie; the last whose price fell -/
def low1 (s : (Str → Int) × Option Str) (t : Tie) : (Str → Int) × Option Str := if s.1 t.a + t.c < s.1 t.b then (fun z => if z = t.b then s.1 t.a + t.c else s.1 z, some t.b) else s
def setl (ts : List Tie) : Nat → (Str → Int) → Option (Str → Int)
  | 0, _ => none
  | f + 1, g => match (ts.foldl low1 (g, none)).2 with
    | none => some (ts.foldl low1 (g, none)).1
    | some _ => setl ts f (ts.foldl low1 (g, none)).1
/-- a dict with these places' prices -/
def Pr (ps : List Str) (kvs : List (Key × V)) (g : Str → Int) : Prop := ∀ z ∈ ps, valV kvs (.inr z) = some (.int (g z))
def oV : Option Str → V
  | none => .non
  | some z => .str z
/-- what lowered and settled are handed -/
structure LowIn (K : PySem.W.Frag) (H : Hp) (tl pp pw : Addr) (ps : List Str) (ts : List Tie) (tvs : List V) (kvs wvs : List (Key × V)) (g : Str → Int) : Prop where
  htl : H tl = some (.lst tvs)
  ht : DpAll K (hid [pp, pw] H) tvs (ts.map Tie.d)
  hp : H pp = some (.dK kvs)
  hw : H pw = some (.dK wvs)
  ne : pp ≠ pw
  pr : Pr ps kvs g
  on : ∀ t ∈ ts, t.a ∈ ps ∧ t.b ∈ ps
  sz : kvs.length ≤ 1000
def spLowered (K : PySem.W.Frag) : Sp := fun vs H Q _ => ∃ (tl pp pw : Addr) (ps : List Str) (ts : List Tie) (tvs : List V) (kvs wvs : List (Key × V)) (g : Str → Int), vs = [.ref tl, .ref pp, .ref pw] ∧ LowIn K H tl pp pw ps ts tvs kvs wvs g ∧ wvs.length + ts.length ≤ 1000 ∧
  ∀ H' kvs' wvs', H' pp = some (.dK kvs') → H' pw = some (.dK wvs') → Pr ps kvs' (ts.foldl low1 (g, none)).1 → kvs'.length ≤ 1000 → wvs'.length ≤ wvs.length + ts.length → SameBut [pp, pw] H H' → Q (oV (ts.foldl low1 (g, none)).2) H'
def spSettled (K : PySem.W.Frag) : Sp := fun vs H Q _ => ∃ (tl pp pw : Addr) (ps : List Str) (ts : List Tie) (tvs : List V) (kvs wvs : List (Key × V)) (g g' : Str → Int) (many : Nat), vs = [.ref tl, .ref pp, .ref pw, .int many] ∧ LowIn K H tl pp pw ps ts tvs kvs wvs g ∧ many ≤ 1000 ∧ wvs.length + (many + 1) * ts.length ≤ 1000 ∧
  setl ts (many + 1) g = some g' ∧ ∀ H' kvs', H' pp = some (.dK kvs') → Pr ps kvs' g' → SameBut [pp, pw] H H' → Q .non H'
def spFoundRing (K : PySem.W.Frag) : Sp := fun vs H Q _ => ∃ (n k l : Addr) (ps : List Str) (ts : List Tie) (ms : List Addr) (g : Str → Int), vs = [.ref n] ∧ NetIs K H n k l ps ts ms ∧ (∀ t ∈ ts, t.a ∈ ps ∧ t.b ∈ ps) ∧ ps.length ≤ 20 ∧ ts.length ≤ 40 ∧ setl ts (ps.length + 1) (fun _ => 0) = some g ∧
  Fresh K H (.tuple [.bool false, .list (ps.map fun z => .list [.str z, .int (g z)])]) Q
/-- what came later lies apart -/
theorem same_new {ns : List Addr} {H H' : Hp} (s : Same H H') (h : ∀ a ∈ ns, H a = none) : Same H (hid ns H') := fun b o e => by
  rw [hid_of fun z => ne_of_none e (h b z) rfl]
  exact s b o e
theorem NetIs.new {K : PySem.W.Frag} {H H' : Hp} {n k l : Addr} {ps : List Str} {ts : List Tie} {ms ns : List Addr} (N : NetIs K H n k l ps ts ms) (s : Same H H') (h : ∀ a ∈ ns, H a = none) : NetIs K H' n k l ps ts ns := by
  obtain ⟨⟨dx, h1⟩, h2, ⟨tvs, h3, h4⟩, h5, h6⟩ := N
  exact ⟨⟨dx, s _ _ h1⟩, s _ _ h2, ⟨tvs, s _ _ h3, DpAll.same (hid_same.trans (same_new s h)) _ _ h4⟩, h5, h6⟩
theorem putK_le {kvs : List (Key × V)} {k : Key} {v : V} : (putK kvs k v).length ≤ kvs.length + 1 := length_putK kvs k v
theorem putK_at {kvs : List (Key × V)} {k : Key} {v w : V} (h : valV kvs k = some w) : (putK kvs k v).length = kvs.length := by
  unfold putK
  rw [if_pos (by rw [valV_any, h]; rfl), List.length_map]
section
variable {P : Program} {w : World} {K : PySem.W.Frag} {mg : Str → Option Value} {base : Heap}
theorem sc_lowered : FnScope ["ties", "prices", "ways", "last", "tie", "a", "b", "cost"] ["ties", "prices", "ways"] (defScope sLowered) := ⟨rfl, rfl, rfl, by decide +kernel, rfl, by decide +kernel, by decide +kernel⟩
theorem rd_lowered (T : Txt K mg) : Rd P w K mg base 1 "lowered" ["ties", "prices", "ways"] (spLowered K) := by
  refine rd_mk T.lowered (fun _ _ _ _ _ _ us hl => match us, hl with | [_, _, _], _ => rfl) sc_lowered (fun vs H Q E h => ?_) (fun f cdv A outer s H vs Q E hr h => ?_)
  · obtain ⟨tl, pp, pw, ps, ts, tvs, kvs, wvs, g, rfl, _⟩ := h
    rfl
  · obtain ⟨tl, pp, pw, ps, ts, tvs, kvs, wvs, g, rfl, L, hz, q⟩ := h
    obtain ⟨htl, ht, hp, hw, ne, pr, on, sz⟩ := L
    have nd := sc_lowered.nd
    have hu := hu_of hr
    refine ⟨_, pss_cons (ps_set (i := 3) nd rfl (Or.inl rfl) pe_non) <|
      pss_cons (ps_for (passes_of rfl) rfl (pi_list (pv 0)) (pg_name (i := 4) nd rfl (Or.inl rfl)) <|
        pss_cons (ps_par3 (i := 5) (j := 6) (l := 7) rfl nd rfl rfl rfl (by decide) (by decide) (by decide) rfl rfl rfl (pa_cons (pe_ix ix_tup (pv 4) pe_int (fun _ _ => rfl)) (pa_cons (pe_ix ix_tup (pv 4) pe_int (fun _ _ => rfl)) (pa_cons (pe_ix ix_tup (pv 4) pe_int (fun _ _ => rfl)) pa_nil))) rfl) <|
        pss_one (ps_if (PW.pt (pw_and (pt_cmp (pc_din hu (pv 5) (pv 1)) (by rfl)) (pw_and1 (PW.pt (pw_or (pt_cmp (pc_dnotin hu (pv 6) (pv 1)) (by rfl)) (pw_or1 (pt_cmpR op_lt (pe_op op_add (pe_dget hu (pv 1) (pv 5) (fun _ _ => rfl)) (pv 7)) (pe_dget hu (pv 1) (pv 6) (fun _ _ => rfl)) (nomark _))))))))
          (pss_cons (ps_dput hu (pv 1) (pv 6) (pe_op op_add (pe_dget hu (pv 1) (pv 5) (fun _ _ => rfl)) (pv 7)) rfl) <|
            pss_cons (ps_dput hu (pv 2) (pv 6) (pv 4) rfl) <|
            pss_one (ps_set (i := 3) nd rfl (Or.inl rfl) (pv 6))) pss_nil)) <|
      pss_one (ps_ret (pv 3)), ?_⟩
    refine ⟨_, rfl, tl, rfl, ⟨_, SqL.of htl⟩, for_list (K := K) (a := tl) (xs := tvs) (fun i σ H' => ∃ (kvs' wvs' : List (Key × V)) (v4 v5 v6 v7 : Option V), σ = [some (.ref tl), some (.ref pp), some (.ref pw), some (oV ((ts.take i).foldl low1 (g, none)).2), v4, v5, v6, v7] ∧
      H' pp = some (.dK kvs') ∧ H' pw = some (.dK wvs') ∧ Pr ps kvs' ((ts.take i).foldl low1 (g, none)).1 ∧ kvs'.length ≤ 1000 ∧ wvs'.length ≤ wvs.length + i ∧ SameBut [pp, pw] H H')
      ⟨kvs, wvs, none, none, none, none, rfl, hp, hw, pr, sz, Nat.le_refl _, (Same.refl H).but⟩ (fun i σ H' _ ⟨_, _, _, _, _, _, _, _, _, _, _, _, sb⟩ => SqL.of (sb _ _ htl ?_)) ?_ ?_⟩
    · intro z
      simp only [List.mem_cons, List.not_mem_nil, or_false] at z
      rcases z with z | z
      · rw [z, hp] at htl
        cases htl
      · rw [z, hw] at htl
        cases htl
    · rintro i x σ H1 hi ⟨kvs', wvs', v4, v5, v6, v7, rfl, h1, h2, h3, h4, h5, sb⟩
      obtain ⟨t, p, hti, rfl, hs⟩ := tie_at ht hi
      have hs1 : SqT K H1 p t.vs := Same.seqT hid_same (Same.seqT sb.hid hs)
      have tk : ts.take (i + 1) = ts.take i ++ [t] := by rw [List.take_add_one, hti]; rfl
      have hmem := List.mem_of_getElem? hti
      obtain ⟨onA, onB⟩ := on t hmem
      have hlt : i < ts.length := (List.getElem?_eq_some_iff.mp hti).1
      obtain ⟨c3, hc3⟩ : ∃ c3, c3 = (ts.take i).foldl low1 (g, none) := ⟨_, rfl⟩
      have hc4 : (ts.take (i + 1)).foldl low1 (g, none) = low1 c3 t := by rw [tk, List.foldl_append, ← hc3]; rfl
      rw [← hc3] at h3 ⊢
      rw [hc4]
      refine ⟨_, rfl, p, _, 1, _, rfl, rfl, hs1, at_of (j := 1) rfl rfl, _, rfl, p, _, 2, _, rfl, rfl, hs1, at_of (j := 2) rfl rfl, _, rfl, p, _, 4, _, rfl, rfl, hs1, at_of (j := 4) rfl rfl, _, _, _, rfl, ?_⟩
      have dA : DGet H1 pp (.str t.a) (some (.int (c3.1 t.a))) := by
        have z := DGet.k (k := Sum.inr t.a) h1
        rw [h3 _ onA] at z
        exact z
      have dB : DGet H1 pp (.str t.b) (some (.int (c3.1 t.b))) := by
        have z := DGet.k (k := Sum.inr t.b) h1
        rw [h3 _ onB] at z
        exact z
      refine ⟨_, rfl, _, rfl, pp, _, rfl, dA, _, rfl, ifT rfl ?_⟩
      refine ⟨_, rfl, _, rfl, pp, _, rfl, dB, _, rfl, ifF rfl ?_⟩
      refine ⟨_, rfl, _, rfl, pp, _, rfl, dA, _, rfl, _, _, rfl, rfl, _, rfl, _, rfl, pp, _, rfl, dB, _, _, rfl, rfl, _, rfl, ?_⟩
      by_cases hl : c3.1 t.a + t.c < c3.1 t.b
      · have es : low1 c3 t = (fun z => if z = t.b then c3.1 t.a + t.c else c3.1 z, some t.b) := if_pos hl
        rw [es]
        refine ifT (decide_eq_true hl) ?_
        refine ⟨_, rfl, _, rfl, pp, _, rfl, dA, _, rfl, _, _, rfl, rfl, _, rfl, _, rfl, pp, _, rfl, DPut.k (k := Sum.inr t.b) h1 (small1000 h4), ?_⟩
        refine ⟨_, rfl, _, rfl, _, rfl, pw, _, rfl, DPut.k (k := Sum.inr t.b) (by rw [upd_ne ne.symm]; exact h2) (small1000 (by omega)), ?_⟩
        refine ⟨_, rfl, putK kvs' (.inr t.b) (.int (c3.1 t.a + t.c)), putK wvs' (.inr t.b) (.ref p), _, _, _, _, rfl, by rw [upd_ne ne, upd_same], by rw [upd_same], ?_, by rw [putK_at (h3 _ onB)]; exact h4, ?_, ?_⟩
        · intro z hz'
          show valV _ _ = some (.int (if z = t.b then c3.1 t.a + t.c else c3.1 z))
          by_cases e : z = t.b
          · rw [if_pos e, valV_put, if_pos (by rw [e])]
          · rw [if_neg e, valV_put, if_neg (fun z' => e (Sum.inr.inj z'))]
            exact h3 _ hz'
        · have := putK_le (kvs := wvs') (k := (.inr t.b : Key)) (v := .ref p)
          omega
        · exact sb.trans (((Same.refl H1).but.upd (by simp)).upd (by simp))
      · have es : low1 c3 t = c3 := if_neg hl
        rw [es]
        refine ifF (decide_eq_false hl) ?_
        exact ⟨kvs', wvs', _, _, _, _, rfl, h1, h2, h3, h4, by omega, sb⟩
    · rintro σ H1 ⟨kvs', wvs', v4, v5, v6, v7, rfl, h1, h2, h3, h4, h5, sb⟩
      have lt : tvs.length = ts.length := by rw [ht.length, List.length_map]
      rw [lt, List.take_length] at h3 ⊢
      rw [lt] at h5
      exact ⟨_, rfl, q H1 kvs' wvs' h1 h2 h3 h4 h5 sb⟩
theorem sc_settled : FnScope ["ties", "prices", "ways", "many", "time", "last"] ["ties", "prices", "ways", "many"] (defScope sSettled) := ⟨rfl, rfl, rfl, by decide +kernel, rfl, by decide +kernel, by decide +kernel⟩
theorem rd_settled (T : Txt K mg) : Rd P w K mg base 2 "settled" ["ties", "prices", "ways", "many"] (spSettled K) := by
  obtain ⟨f1, fd1, G1, g1, k1, b1⟩ := (rd_lowered (P := P) (w := w) (base := base) T).ex
  refine rd_mk T.settled (fun _ _ _ _ _ _ us hl => match us, hl with | [_, _, _, _], _ => rfl) sc_settled (fun vs H Q E h => ?_) (fun f cdv A outer s H vs Q E hr h => ?_)
  · obtain ⟨tl, pp, pw, ps, ts, tvs, kvs, wvs, g, g', many, rfl, _⟩ := h
    rfl
  · obtain ⟨tl, pp, pw, ps, ts, tvs, kvs, wvs, g, g', many, rfl, L, hm, hz, hset, q⟩ := h
    have nd := sc_settled.nd
    refine ⟨_, pss_cons (ps_for (passes_of rfl) rfl (pi_range1 rfl T.range (pa_cons (pe_op op_add (pv 3) pe_int) pa_nil)) (pg_name (i := 4) nd rfl (Or.inl rfl)) <|
        pss_cons (ps_set (i := 5) nd rfl (Or.inl rfl) (pe_call G1 hr rfl g1 k1 b1 .nil passL (pa_cons (pv 0) (pa_cons (pv 1) (pa_cons (pv 2) pa_nil))))) <|
        pss_one (ps_if (pt_cmpR op_isN (pv 5) pe_non (nomark _)) (pss_one (ps_ret pe_non)) pss_nil)) <| pss_never, ?_⟩
    refine ⟨_, rfl, _, _, rfl, rfl, _, rfl, by omega, by omega, ?_⟩
    rw [show ((many : Int) + 1).toNat = many + 1 by omega]
    refine for_it walk_range (fun i σ H' => ∃ (kvs' wvs' : List (Key × V)) (v4 v5 : Option V) (g1 : Str → Int), σ = [some (.ref tl), some (.ref pp), some (.ref pw), some (.int many), v4, v5] ∧ LowIn K H' tl pp pw ps ts tvs kvs' wvs' g1 ∧ wvs'.length + (many + 1 - i) * ts.length ≤ 1000 ∧ setl ts (many + 1 - i) g1 = some g' ∧ SameBut [pp, pw] H H')
      ⟨kvs, wvs, none, none, g, rfl, L, hz, hset, (Same.refl H).but⟩ (fun _ _ _ _ _ => trivial) ?_ ?_
    · rintro i x σ H1 H2 hi ⟨kvs', wvs', v4, v5, gi, rfl, Li, h1, h2, sb⟩ ⟨rfl, rfl⟩
      have e1 : many + 1 - i = (many + 1 - (i + 1)) + 1 := by omega
      rw [e1] at h1 h2
      rw [Nat.add_mul, Nat.one_mul] at h1
      refine ⟨_, rfl, _, rfl, _, rfl, tl, pp, pw, ps, ts, tvs, kvs', wvs', gi, rfl, Li, by omega, fun H3 kvs3 wvs3 k1 k2 k3 k4 k5 sb3 => ?_⟩
      refine ⟨_, rfl, rfl, _, rfl, ?_⟩
      unfold setl at h2
      cases e : (ts.foldl low1 (gi, none)).2 with
      | none =>
        rw [e] at h2
        have z : (ts.foldl low1 (gi, none)).1 = g' := Option.some.inj h2
        rw [z] at k3
        refine ifT rfl ?_
        exact q H3 kvs3 k1 k3 (sb.trans sb3)
      | some y =>
        rw [e] at h2
        refine ifF rfl ?_
        obtain ⟨htl, ht, hp, hw, ne, pr, on, sz⟩ := Li
        refine ⟨kvs3, wvs3, _, _, _, rfl, ⟨sb3 _ _ htl ?_, DpAll.same sb3.hid _ _ ht, k1, k2, ne, k3, on, k4⟩, by omega, h2, sb.trans sb3⟩
        intro z
        simp only [List.mem_cons, List.not_mem_nil, or_false] at z
        rcases z with z | z
        · rw [z, hp] at htl
          cases htl
        · rw [z, hw] at htl
          cases htl
    · rintro σ H1 ⟨kvs', wvs', v4, v5, gi, rfl, Li, h1, h2, sb⟩
      rw [Nat.sub_self] at h2
      cases h2
theorem merge_at {ps : List Str} {x : Int} : ∀ {acc : List (Key × V)} {z : Str}, valV (mergeK acc (ps.map fun y => ((.inr y : Key), V.int x))) (.inr z) = if z ∈ ps then some (.int x) else valV acc (.inr z) := by
  induction ps with
  | nil =>
    intro acc z
    rw [if_neg (by simp)]
    rfl
  | cons p ps ih =>
    intro acc z
    show valV (mergeK (putK acc (.inr p) (.int x)) (ps.map fun y => ((.inr y : Key), V.int x))) (.inr z) = _
    rw [ih]
    by_cases e : z ∈ ps
    · rw [if_pos e, if_pos (List.mem_cons_of_mem _ e)]
    · rw [if_neg e, valV_put]
      by_cases e2 : z = p
      · rw [if_pos (by rw [e2]), if_pos (by rw [e2]; exact List.mem_cons_self)]
      · rw [if_neg (fun q => e2 (Sum.inr.inj q)), if_neg (fun q => by rcases List.mem_cons.mp q with q | q; exact e2 q; exact e q)]
theorem sc_foundRing : FnScope ["net", "places", "prices", "ring", "place"] ["net"] (defScope sFoundRing) := ⟨rfl, rfl, rfl, by decide +kernel, rfl, by decide +kernel, by decide +kernel⟩
theorem rd_foundRing (T : Txt K mg) : Rd P w K mg base 3 "found_ring" ["net"] (spFoundRing K) := by
  obtain ⟨f1, fd1, G1, m1, b1⟩ := ((rm_places (P := P) (w := w) (base := base) T).mono (show 1 ≤ 2 by decide)).ex
  obtain ⟨f2, fd2, G2, m2, b2⟩ := ((rm_ties (P := P) (w := w) (base := base) T).mono (show 1 ≤ 2 by decide)).ex
  obtain ⟨f3, fd3, G3, g3, k3, b3⟩ := (rd_settled (P := P) (w := w) (base := base) T).ex
  refine rd_mk T.foundRing (fun _ _ _ _ _ _ us hl => match us, hl with | [_], _ => rfl) sc_foundRing (fun vs H Q E h => ?_) (fun f cdv A outer s H vs Q E hr h => ?_)
  · obtain ⟨n, k, l, ps, ts, ms, g, rfl, _⟩ := h
    rfl
  · obtain ⟨n, k, l, ps, ts, ms, g, rfl, N, on, lp, lt, hset, q⟩ := h
    have nd := sc_foundRing.nd
    have hu := hu_of hr
    refine ⟨_, pss_cons (ps_set (i := 1) nd rfl (Or.inl rfl) (pe_meth0 (pv 0) T.clN m1 G1 hr b1 .nil passL)) <|
      pss_cons (ps_set (i := 2) nd rfl (Or.inr rfl) (pe_callTy (call_dictP rfl) rfl T.dict boot_dict (pa_cons (pe_lc (own := [("place", 4)]) (g := gName 4) (tt := tYes) (te := tTup (tCons (tVar 4) (tCons (tC (.int 0)) tNil))) rfl nd (pi_list (pv 1))
        (blkOk_by (N := ["net", "places", "prices", "ring", "place"]) (sc := defScope sFoundRing) (by decide +kernel)) (fun _ _ _ _ _ => pg_name (i := 4) nd rfl (Or.inl rfl)) (fun _ _ _ _ _ => pts_nil) (fun _ _ _ _ _ => by exact pe_tup (pa_cons (pv 4) (pa_cons pe_int pa_nil)))) pa_nil))) <|
      pss_cons (ps_set (i := 3) nd rfl (Or.inl rfl) (pe_call G3 hr rfl g3 k3 b3 .nil passL (pa_cons (pe_meth0 (pv 0) T.clN m2 G2 hr b2 .nil passL) (pa_cons (pv 2) (pa_cons pe_dnewK (pa_cons (pe_callB call_len_seq (by rfl) T.len PySem.boot_len (pa_cons (pv 1) pa_nil)) pa_nil)))))) <|
      pss_cons (ps_if (pt_cmpR op_notN (pv 3) pe_non (nomark _)) pss_never pss_nil) <|
      pss_one (ps_ret (pe_tup (pa_cons pe_bl (pa_cons (pe_lc (own := [("place", 4)]) (g := gName 4) (tt := tYes) (te := tLst (tCons (tVar 4) (tCons (tDGet (tVar 2) (tVar 4)) tNil))) rfl nd (pi_list (pv 1))
        (blkOk_by (N := ["net", "places", "prices", "ring", "place"]) (sc := defScope sFoundRing) (by decide +kernel)) (fun _ _ _ _ _ => pg_name (i := 4) nd rfl (Or.inl rfl)) (fun _ _ _ _ _ => pts_nil) (fun _ _ _ _ _ => by exact pe_lst (pa_cons (pv 4) (pa_cons (pe_dget hu (pv 2) (pv 4) (fun _ _ => rfl)) pa_nil)))) pa_nil)))), ?_⟩
    obtain ⟨dx, hn⟩ := N.ob
    refine ⟨_, rfl, n, dx, _, rfl, hn, nF_no _ _ (by decide +kernel) (by decide +kernel), n, k, l, ps, ts, ms, rfl, N, fun pl H1 npl s1 hpl => ?_⟩
    -- the list of pairs
    refine ⟨_, rfl, pl, rfl, ⟨_, SqL.of hpl⟩, fun D hD => ?_⟩
    refine lc_list (K := K) (a := pl) (xs := ps.map V.str) (fun i H' => ∃ pa : List Addr, H' D = some (.lst (pa.map V.ref)) ∧ Paired (fun p (kv : Key × V) => SqT K (hid [D] H') p [kV kv.1, kv.2]) pa ((ps.take i).map fun y => ((.inr y : Key), V.int 0)) ∧ Same H1 H')
      ⟨[], upd_same, .nil, Same.new hD⟩ (fun i H' _ ⟨_, _, _, s⟩ => SqL.of (s _ _ hpl)) ?_ ?_
    · rintro i x H2 hi ⟨pa, e1, e2, s2⟩
      obtain ⟨z, hzi, rfl⟩ := map_at hi
      have tk : ps.take (i + 1) = ps.take i ++ [z] := by rw [List.take_add_one, hzi]; rfl
      refine ⟨rfl, _, rfl, (by show 2 ≤ sizeLine; decide), fun p hp => ?_⟩
      have nDp : D ≠ p := ne_of_none e1 hp
      have lpa : pa.length = (ps.take i).length := by
        have := e2.length
        rw [List.length_map] at this
        exact this
      have lps := List.length_take_le' i ps
      refine ⟨pa.map V.ref, by rw [upd_ne nDp]; exact e1, by rw [List.length_map]; exact small1000 (by omega), pa ++ [p], by rw [upd_same, List.map_append]; rfl, ?_, ?_⟩
      · rw [tk, List.map_append]
        refine Paired.snoc (Paired.mapP e2 fun a b hab => Same.seqT (fun c o ec => ?_) hab) (SqT.of ?_)
        · by_cases hc : c = D
          · unfold hid at ec
            rw [if_pos (by rw [hc]; exact List.mem_cons_self)] at ec
            cases ec
          · rw [hid_of (by simp [hc])] at ec ⊢
            rw [upd_ne hc, upd_ne (ne_of_none ec hp)]
            exact ec
        · rw [hid_of (by simp [nDp.symm]), upd_ne nDp.symm, upd_same]
          rfl
      · intro b o e
        have nb : b ≠ D := ne_of_none e hD
        rw [upd_ne nb, upd_ne (ne_of_none (s2 _ _ e) hp)]
        exact s2 _ _ e
    rintro H2 ⟨pa, e1, e2, s2⟩
    rw [List.length_map, List.take_length] at e2
    refine ⟨D, pa, _, rfl, SqL.of e1, Paired.mapP e2 fun a b hab => Same.seqT hid_same hab, fun pp hpp => ?_⟩
    have s3 : Same H1 (upd H2 pp (.dK (mergeK [] (ps.map fun y => ((.inr y : Key), V.int 0))))) := s2.trans (Same.new hpp)
    have hpp3 : upd H2 pp (.dK (mergeK [] (ps.map fun y => ((.inr y : Key), V.int 0)))) pp = some (.dK (mergeK [] (ps.map fun y => ((.inr y : Key), V.int 0)))) := upd_same
    have lmk : (mergeK [] (ps.map fun y => ((.inr y : Key), V.int 0))).length ≤ 1000 := by
      have := length_mergeK (ps.map fun y => ((.inr y : Key), V.int 0)) []
      rw [List.length_map, List.length_nil] at this
      omega
    have npp : H1 pp = none := s2.free hpp
    generalize upd H2 pp (.dK (mergeK [] (ps.map fun y => ((.inr y : Key), V.int 0)))) = H3 at s3 hpp3 ⊢
    have s03 : Same H H3 := s1.trans s3
    -- settled
    refine ⟨_, rfl, n, dx, _, rfl, s03 _ _ hn, nF_no _ _ (by decide +kernel) (by decide +kernel), n, k, l, ps, ts, [pp], rfl, N.new (ns := [pp]) s03 (fun a ha => ?_), fun tl tvs H4 ntl s4 htl hta => ?_⟩
    · simp only [List.mem_cons, List.not_mem_nil, or_false] at ha
      rw [ha]
      exact s1.free npp
    refine ⟨_, rfl, fun pw hpw => ⟨_, rfl, pl, _, rfl, .inl (SqL.of (by rw [upd_ne (ne_of_none (s4 _ _ (s3 _ _ hpl)) hpw)]; exact s4 _ _ (s3 _ _ hpl))), ?_⟩⟩
    rw [List.length_map]
    have s5 : Same H4 (upd H4 pw (.dK [])) := Same.new hpw
    have hpw5 : upd H4 pw (.dK []) pw = some (.dK []) := upd_same
    generalize upd H4 pw (.dK []) = H5 at s5 hpw5 ⊢
    have s35 : Same H3 H5 := s4.trans s5
    have npw4 : H3 pw = none := s4.free hpw
    refine ⟨tl, pp, pw, ps, ts, tvs, _, [], fun _ => 0, g, ps.length, rfl, ⟨s5 _ _ htl, ?_, s35 _ _ hpp3, hpw5, ne_of_none hpp3 npw4, ?_, on, lmk⟩, by omega, ?_, hset, fun H6 kvs6 h6 pr6 sb6 => ?_⟩
    · have e4 : Same (hid [pp] H4) (hid [pp, pw] H5) := fun b o e => by
        by_cases hb : b = pp
        · unfold hid at e
          rw [if_pos (by simp [hb])] at e
          cases e
        · rw [hid_of (by simp [hb])] at e
          rw [hid_of (by simp [hb, ne_of_none e hpw])]
          exact s5 _ _ e
      exact DpAll.same e4 _ _ hta
    · intro z hz
      rw [merge_at, if_pos hz]
    · show 0 + (ps.length + 1) * ts.length ≤ 1000
      have := Nat.mul_le_mul (show ps.length + 1 ≤ 21 by omega) lt
      omega
    have npl3 : pl ≠ pp := ne_of_none hpl npp
    have npw1 : H1 pw = none := s3.free npw4
    have npl4 : pl ≠ pw := ne_of_none hpl npw1
    have s6 : Same H1 H6 := fun b o e => sb6 b o (s35 _ _ (s3 _ _ e)) (by simp [ne_of_none e npp, ne_of_none e npw1])
    refine ⟨_, rfl, rfl, _, rfl, ifF rfl ?_⟩
    -- the prices told
    refine ⟨_, rfl, pl, rfl, ⟨_, SqL.of (s6 _ _ hpl)⟩, fun D2 hD2 => ?_⟩
    have nD2 : H1 D2 = none := s6.free hD2
    refine lc_list (K := K) (a := pl) (xs := ps.map V.str) (fun i H' => ∃ acc : List V, H' D2 = some (.lst acc) ∧ (∀ ms', (∀ a ∈ ms', ∃ o, H a = some o) → DpAll K (hid (D2 :: ms') H') acc ((ps.take i).map fun z => .list [.str z, .int (g z)])) ∧ Same H6 H')
      ⟨[], upd_same, fun _ _ => .nil, Same.new hD2⟩ (fun i H' _ ⟨_, _, _, s⟩ => SqL.of (s _ _ (s6 _ _ hpl))) ?_ ?_
    · rintro i x H7 hi ⟨acc, e1, e2, s7⟩
      obtain ⟨z, hzi, rfl⟩ := map_at hi
      have tk : ps.take (i + 1) = ps.take i ++ [z] := by rw [List.take_add_one, hzi]; rfl
      have dz : DGet H7 pp (.str z) (some (.int (g z))) := by
        have q := DGet.k (k := Sum.inr z) (s7 _ _ h6)
        rw [pr6 _ (List.mem_of_getElem? hzi)] at q
        exact q
      refine ⟨rfl, _, rfl, _, rfl, _, rfl, pp, _, rfl, dz, (by show 2 ≤ sizeLine; decide), fun r hr' => ?_⟩
      have nDr : D2 ≠ r := ne_of_none e1 hr'
      have lac : acc.length ≤ 20 := by
        have h := (e2 [] (fun _ h => nomatch h)).length
        rw [List.length_map] at h
        have := List.length_take_le' i ps
        omega
      refine ⟨acc, by rw [upd_ne nDr]; exact e1, small1000 (by omega), acc ++ [.ref r], upd_same, fun ms' hk => ?_, fun b o e => ?_⟩
      · rw [tk, List.map_append]
        have nr : r ∉ ms' := known_not hk (s1.free (s6.free (s7.free hr')))
        refine DpAll.append (DpAll.same (fun b o e => ?_) _ _ (e2 ms' hk)) (.cons (.lst (SqL.of ?_) (.cons (.str z) (.cons (.int _) .nil))) .nil)
        · by_cases hb : b ∈ D2 :: ms'
          · unfold hid at e
            rw [if_pos hb] at e
            cases e
          · rw [hid_of hb] at e ⊢
            rw [upd_ne (fun q => hb (by rw [q]; exact List.mem_cons_self)), upd_ne (ne_of_none e hr')]
            exact e
        · rw [hid_of (by intro q; rcases List.mem_cons.mp q with q | q; exact nDr q.symm; exact nr q), upd_ne nDr.symm, upd_same]
      · have nb : b ≠ D2 := ne_of_none e hD2
        rw [upd_ne nb, upd_ne (ne_of_none (s7 _ _ e) hr')]
        exact s7 _ _ e
    rintro H7 ⟨acc, e1, e2, s7⟩
    rw [List.length_map, List.take_length] at e2
    refine ⟨(by show 2 ≤ sizeLine; decide), fun t ht => ?_⟩
    have s8 : Same H H7 := s1.trans (s6.trans s7)
    refine q (.ref t) _ (s8.trans (Same.new ht)) fun ms' hk => ?_
    have n1 : t ∉ ms' := known_not hk (s8.free ht)
    have n2 : D2 ∉ ms' := known_not hk (s1.free nD2)
    refine .tup (SqT.of (by rw [hid_of n1]; exact upd_same)) (.cons (.bl false) (.cons (.lst (SqL.of ?_) (DpAll.same ?_ _ _ (e2 ms' hk))) .nil))
    · rw [hid_of n2, upd_ne (ne_of_none e1 ht)]
      exact e1
    · exact Same.trans (hid_mono fun a h => List.mem_cons_of_mem _ h) (Same.but (Same.new ht)).hid
end
end Nc
end

section
set_option maxHeartbeats 4000000
namespace Nc
open PySem PySem.Spec PyProof.Rows L2
/-! find_plain, find_claim (of a way that is, of no ring below nought) -/
def Found (ps : List Str) (ts : List Tie) : Cl → PyData → Prop
  | .way a b, d => ∃ walk : List Str, wayOf ts a b walk ∧ d = .tuple [.bool true, .list (walk.map PyData.str)]
  | .ring, d => ∃ g : Str → Int, (∀ t ∈ ts, t.a ∈ ps ∧ t.b ∈ ps) ∧ ps.length ≤ 20 ∧ ts.length ≤ 40 ∧ setl ts (ps.length + 1) (fun _ => 0) = some g ∧ d = .tuple [.bool false, .list (ps.map fun z => .list [.str z, .int (g z)])]
  | _, _ => False
def spFind (K : PySem.W.Frag) : Sp := fun vs H Q _ => ∃ (n k l : Addr) (ps : List Str) (ts : List Tie) (ms : List Addr) (u : V) (c : Cl) (d : PyData), vs = [.ref n, u] ∧ NetIs K H n k l ps ts ms ∧ Dp K H u c.d ∧ Found ps ts c d ∧ Fresh K H d Q
section
variable {P : Program} {w : World} {K : PySem.W.Frag} {mg : Str → Option Value} {base : Heap}
theorem sc_findPlain : FnScope ["net", "claim", "word"] ["net", "claim"] (defScope sFindPlain) := ⟨rfl, rfl, rfl, by decide +kernel, rfl, by decide +kernel, by decide +kernel⟩
theorem rd_findPlain (T : Txt K mg) : Rd P w K mg base 5 "find_plain" ["net", "claim"] (spFind K) := by
  obtain ⟨f1, fd1, G1, g1, k1, b1⟩ := (rd_foundWay (P := P) (w := w) (base := base) T).ex
  obtain ⟨f2, fd2, G2, g2, k2, b2⟩ := ((rd_foundRing (P := P) (w := w) (base := base) T).mono (show 3 ≤ 4 by decide)).ex
  refine rd_mk T.findPlain (fun _ _ _ _ _ _ us hl => match us, hl with | [_, _], _ => rfl) sc_findPlain (fun vs H Q E h => ?_) (fun f cdv A outer s H vs Q E hr h => ?_)
  · obtain ⟨n, k, l, ps, ts, ms, u, c, d, rfl, _⟩ := h
    rfl
  · obtain ⟨n, k, l, ps, ts, ms, u, c, d, rfl, N, hu, hF, q⟩ := h
    have nd := sc_findPlain.nd
    refine ⟨_, pss_cons (ps_set (i := 2) nd rfl (Or.inl rfl) (pe_ix ix_tup (pv 1) pe_int (fun _ _ => rfl))) <|
      pss_cons (ps_if (pt_cmpR op_eq (pv 2) pe_str (nomark _)) (pss_one (ps_ret (pe_call G1 hr rfl g1 k1 b1 .nil passL (pa_cons (pv 0) (pa_cons (pe_ix ix_tup (pv 1) pe_int (fun _ _ => rfl)) (pa_cons (pe_ix ix_tup (pv 1) pe_int (fun _ _ => rfl)) pa_nil)))))) pss_nil) <|
      pss_cons (ps_if (pt_cmpR op_eq (pv 2) pe_str (nomark _)) pss_never pss_nil) <|
      pss_cons (ps_if (pt_cmpR op_eq (pv 2) pe_str (nomark _)) (pss_one (ps_ret (pe_call G2 hr rfl g2 k2 b2 .nil passL (pa_cons (pv 0) pa_nil)))) pss_nil) <| pss_never, ?_⟩
    cases c with
    | way a b =>
      obtain ⟨walk, hw, rfl⟩ : ∃ walk : List Str, wayOf ts a b walk ∧ d = .tuple [.bool true, .list (walk.map PyData.str)] := hF
      obtain ⟨p, rfl, hs⟩ := dp_strs (l := ["way", a, b]) hu
      refine ⟨_, rfl, p, _, 0, _, rfl, rfl, hs, at_of (j := 0) rfl rfl, _, rfl, rfl, _, rfl, ifT (by decide +kernel) ?_⟩
      exact ⟨_, rfl, _, rfl, p, _, 1, _, rfl, rfl, hs, at_of (j := 1) rfl rfl, _, rfl, p, _, 2, _, rfl, rfl, hs, at_of (j := 2) rfl rfl, n, k, l, ps, ts, ms, a, b, walk, rfl, N, hw, q⟩
    | ring =>
      obtain ⟨g, on, lp, lt, hset, rfl⟩ : ∃ g : Str → Int, (∀ t ∈ ts, t.a ∈ ps ∧ t.b ∈ ps) ∧ ps.length ≤ 20 ∧ ts.length ≤ 40 ∧ setl ts (ps.length + 1) (fun _ => 0) = some g ∧ d = .tuple [.bool false, .list (ps.map fun z => .list [.str z, .int (g z)])] := hF
      obtain ⟨p, rfl, hs⟩ := dp_strs (l := ["ring"]) hu
      refine ⟨_, rfl, p, _, 0, _, rfl, rfl, hs, at_of (j := 0) rfl rfl, _, rfl, rfl, _, rfl, ifF (by decide +kernel) ?_⟩
      refine ⟨_, rfl, rfl, _, rfl, ifF (by decide +kernel) ?_⟩
      refine ⟨_, rfl, rfl, _, rfl, ifT (by decide +kernel) ?_⟩
      exact ⟨_, rfl, n, k, l, ps, ts, ms, g, rfl, N, on, lp, lt, hset, q⟩
    | each _ _ _ => exact False.elim hF
    | or _ _ => exact False.elim hF
    | atm _ _ _ => exact False.elim hF
theorem sc_findClaim : FnScope ["net", "claim", "word", "told", "paper"] ["net", "claim"] (defScope sFindClaim) := ⟨rfl, rfl, rfl, by decide +kernel, rfl, by decide +kernel, by decide +kernel⟩
theorem rd_findClaim (T : Txt K mg) : Rd P w K mg base 6 "find_claim" ["net", "claim"] (spFind K) := by
  obtain ⟨f1, fd1, G1, g1, k1, b1⟩ := (rd_findPlain (P := P) (w := w) (base := base) T).ex
  obtain ⟨pc, gC, hC⟩ := T.plain
  refine rd_mk T.findClaim (fun _ _ _ _ _ _ us hl => match us, hl with | [_, _], _ => rfl) sc_findClaim (fun vs H Q E h => ?_) (fun f cdv A outer s H vs Q E hr h => ?_)
  · obtain ⟨n, k, l, ps, ts, ms, u, c, d, rfl, _⟩ := h
    rfl
  · obtain ⟨n, k, l, ps, ts, ms, u, c, d, rfl, N, hu, hF, q⟩ := h
    have nd := sc_findClaim.nd
    obtain ⟨wd, r, hwd, hw5⟩ : ∃ (wd : Str) (r : List PyData), c.d = .tuple (.str wd :: r) ∧ (wd = "way" ∨ wd = "ring") := by
      cases c with
      | way a b => exact ⟨_, _, rfl, .inl rfl⟩
      | ring => exact ⟨_, _, rfl, .inr rfl⟩
      | each _ _ _ => exact False.elim hF
      | or _ _ => exact False.elim hF
      | atm _ _ _ => exact False.elim hF
    obtain ⟨p, xs, rfl, hs, ha⟩ := dp_tup (hwd ▸ hu)
    obtain ⟨x1, r1, rfl, h1, _⟩ := dp_cons ha
    obtain rfl := dp_str h1
    refine ⟨_, pss_cons (ps_set (i := 2) nd rfl (Or.inl rfl) (pe_ix ix_tup (pv 1) pe_int (fun _ _ => rfl))) <|
      pss_cons (ps_if (pt_cmpR op_in_seq (pv 2) (pe_gR gC) (by rfl)) (pss_one (ps_ret (pe_call G1 hr rfl g1 k1 b1 .nil passL (pa_cons (pv 0) (pa_cons (pv 1) pa_nil))))) pss_nil) <| pss_never, ?_⟩
    refine ⟨_, rfl, p, _, 0, _, rfl, rfl, hs, at_of (j := 0) (by show (0:Int) = ((0 : Nat) : Int); rfl) rfl, _, rfl, pc, _, rfl, .inr (hC H), rfl, rfl, _, rfl, ifT ?_ ?_⟩
    · rcases hw5 with rfl | rfl <;> decide +kernel
    · exact ⟨_, rfl, _, rfl, n, k, l, ps, ts, ms, _, c, d, rfl, N, hu, hF, q⟩
end
end Nc
end

section
set_option maxHeartbeats 4000000
namespace Nc
open PySem PySem.Spec PyProof.Rows L2
/-! Book: made, at_name, settle -/
/-- a claim that stands -/
structure Std where
  nm : Str
  c : Cl
  so : Bool
  pap : PyData
def Std.d (s : Std) : PyData := .tuple [s.c.d, .bool s.so, s.pap]
/-- its paper is let by: a way with its walk -/
def Std.good (ts : List Tie) (s : Std) : Prop := ∃ (a b : Str) (walk : List Str), s.c = .way a b ∧ s.so = true ∧ s.pap = .list (walk.map PyData.str) ∧ walkTo ts a walk = some b
structure BookIs (K : PySem.W.Frag) (H : Hp) (b n k l nm st : Addr) (ps : List Str) (ts : List Tie) (ss : List Std) : Prop where
  ob : ∃ dx, H b = some (.ins (gA K "Book") dx (bF n nm st))
  net : NetIs K H n k l ps ts [k, l, nm, st]
  hn : H nm = some (.lst ((ss.map Std.nm).map V.str))
  hs : ∃ svs, H st = some (.lst svs) ∧ DpAll K (hid [k, l, nm, st] H) svs (ss.map Std.d)
  kl : k ≠ l
  kn : k ≠ nm
  ks : k ≠ st
  ln : l ≠ nm
  ls : l ≠ st
  ns : nm ≠ st
theorem BookIs.same {K : PySem.W.Frag} {H H' : Hp} {b n k l nm st : Addr} {ps : List Str} {ts : List Tie} {ss : List Std} (B : BookIs K H b n k l nm st ps ts ss) (s : Same H H') : BookIs K H' b n k l nm st ps ts ss := by
  obtain ⟨⟨dx, h1⟩, h2, h3, ⟨svs, h4, h5⟩, a1, a2, a3, a4, a5, a6⟩ := B
  exact ⟨⟨dx, s _ _ h1⟩, h2.same s, s _ _ h3, ⟨svs, s _ _ h4, DpAll.same s.but.hid _ _ h5⟩, a1, a2, a3, a4, a5, a6⟩
theorem BookIs.known {K : PySem.W.Frag} {H : Hp} {b n k l nm st : Addr} {ps : List Str} {ts : List Tie} {ss : List Std} (B : BookIs K H b n k l nm st ps ts ss) : ∀ a ∈ [k, l, nm, st], ∃ o, H a = some o := by
  obtain ⟨_, ⟨_, hk, ⟨_, hl, _⟩, _, _⟩, h3, ⟨svs, h4, h5⟩, _, _, _, _, _, _⟩ := B
  intro a ha
  simp only [List.mem_cons, List.not_mem_nil, or_false] at ha
  rcases ha with rfl | rfl | rfl | rfl
  · exact ⟨_, hk⟩
  · exact ⟨_, hl⟩
  · exact ⟨_, h3⟩
  · exact ⟨_, h4⟩
/-- the place of a name -/
def firstAt (names : List Str) (nm : Str) (j : Nat) : Prop := names[j]? = some nm ∧ ∀ (i : Nat) z, i < j → names[i]? = some z → z ≠ nm
theorem firstAt_of : ∀ {names : List Str} {nm : Str}, nm ∈ names → ∃ j, firstAt names nm j
  | [], nm, h => nomatch h
  | x :: r, nm, h => by
    by_cases e : x = nm
    · exact ⟨0, by rw [e]; rfl, fun i z hi => absurd hi (Nat.not_lt_zero i)⟩
    · obtain ⟨j, h1, h2⟩ := firstAt_of (names := r) (nm := nm) (by
        rcases List.mem_cons.mp h with q | q
        · exact absurd q.symm e
        · exact q)
      refine ⟨j + 1, h1, fun i z hi hz => ?_⟩
      cases i with
      | zero => exact fun q => e ((Option.some.inj hz).trans q)
      | succ i => exact h2 i z (Nat.lt_of_succ_lt_succ hi) hz
def spBookInit (K : PySem.W.Frag) : Sp := fun vs H Q _ => ∃ p dx : Addr, vs = [.ref p] ∧ H p = some (.ins (gA K "Book") dx []) ∧ ∀ (n k l nm st : Addr) (H' : Hp), BookIs K H' p n k l nm st [] [] [] → (∀ a ∈ [k, l, nm, st], H a = none) → SameBut [p] H H' → Q .non H'
def spAtName (K : PySem.W.Frag) : Sp := fun vs H Q E => ∃ (b n k l nm st : Addr) (ps : List Str) (ts : List Tie) (ss : List Std) (z : Str), vs = [.ref b, .str z] ∧ BookIs K H b n k l nm st ps ts ss ∧
  (z ∉ ss.map Std.nm → Refuses K .claim H E) ∧ ∀ j, firstAt (ss.map Std.nm) z j → Q (.int (j : Nat)) H
def spSettle (K : PySem.W.Frag) : Sp := fun vs H Q _ => ∃ (b n k l nm st : Addr) (ps : List Str) (ts : List Tie) (ss : List Std), vs = [.ref b] ∧ BookIs K H b n k l nm st ps ts ss ∧ (∀ s ∈ ss, s.good ts) ∧ ∀ v H', Same H H' → Q v H'
theorem put_held (n : Addr) : putF "held_net" (.ref n) [] = [(("held_net" : Str), V.ref n)] := rfl
theorem put_names (n nm : Addr) : putF "names" (.ref nm) [(("held_net" : Str), V.ref n)] = [(("held_net" : Str), V.ref n), (("names" : Str), V.ref nm)] := by
  show (if ("held_net" : Str) = "names" then _ else (("held_net" : Str), V.ref n) :: putF "names" (V.ref nm) []) = _
  rw [if_neg (by decide +kernel)]
  rfl
theorem put_stated (n nm st : Addr) : putF "stated" (.ref st) [(("held_net" : Str), V.ref n), (("names" : Str), V.ref nm)] = bF n nm st := by
  show (if ("held_net" : Str) = "stated" then _ else (("held_net" : Str), V.ref n) :: (if ("names" : Str) = "stated" then _ else (("names" : Str), V.ref nm) :: putF "stated" (V.ref st) [])) = _
  rw [if_neg (by decide +kernel), if_neg (by decide +kernel)]
  rfl
section
variable {P : Program} {w : World} {K : PySem.W.Frag} {mg : Str → Option Value} {base : Heap}
theorem sc_bInit : FnScope ["self"] ["self"] (defScope sBookInit) := ⟨rfl, rfl, rfl, by decide +kernel, rfl, by decide +kernel, by decide +kernel⟩
theorem rm_bInit (T : Txt K mg) : Rm P w K mg base 3 "Book" "__init__" ["self"] (spBookInit K) := by
  obtain ⟨f1, fd1, G1, m1, b1⟩ := ((rm_nInit (P := P) (w := w) (base := base) T).mono (show 1 ≤ 1 by decide)).ex
  refine rm_mk T.bInit (fun _ _ _ _ _ _ us hl => match us, hl with | [_], _ => rfl) sc_bInit (fun vs H Q E h => ?_) (fun f cdv A outer s H vs Q E hr h => ?_)
  · obtain ⟨p, dx, rfl, _⟩ := h
    rfl
  · obtain ⟨p, dx, rfl, hp, q⟩ := h
    refine ⟨_, pss_cons (ps_fld (pv 0) (pe_make0 (T.mkN m1) G1 hr rfl T.gN b1 .nil passL) rfl) <| pss_cons (ps_fld (pv 0) (pe_lst pa_nil) rfl) <| pss_one (ps_fld (pv 0) (pe_lst pa_nil) rfl), ?_⟩
    intro n dn nn ndn ndne
    refine ⟨n, dn, rfl, upd_same, fun k l H1 h1 h2 h3 kl hk hl s1 => ⟨rfl, ?_⟩⟩
    have npn : p ≠ n := ne_of_none hp nn
    have npd : p ≠ dn := ne_of_none hp ndn
    have hp1 : H1 p = some (.ins (gA K "Book") dx []) := s1 _ _ (by rw [upd_ne npn, upd_ne npd]; exact hp) (by simp [npn])
    have sH : Same H H1 := fun x o e => s1 x o (by rw [upd_ne (ne_of_none e nn), upd_ne (ne_of_none e ndn)]; exact e) (by simp [ne_of_none e nn])
    refine ⟨_, rfl, p, gA K "Book", dx, [], rfl, hp1, T.clB, T.bHe, (by show 0 < 1000; decide), ?_⟩
    rw [put_held]
    refine ⟨(by show 0 ≤ sizeLine; decide), fun nm hnm => ?_⟩
    have pnm : p ≠ nm := ne_of_none upd_same hnm
    have hnm1 : H1 nm = none := by
      rw [upd_ne pnm.symm] at hnm
      exact hnm
    refine ⟨_, rfl, p, gA K "Book", dx, _, rfl, (by rw [upd_ne pnm]; exact upd_same), T.clB, T.bNa, (by show 1 < 1000; decide), ?_⟩
    rw [put_names]
    refine ⟨(by show 0 ≤ sizeLine; decide), fun st hst => ?_⟩
    have pst : p ≠ st := ne_of_none upd_same hst
    rw [upd_ne pst.symm] at hst
    have nms : nm ≠ st := ne_of_none upd_same hst
    rw [upd_ne nms.symm, upd_ne pst.symm] at hst
    refine ⟨_, rfl, p, gA K "Book", dx, _, rfl, (by rw [upd_ne pst]; exact upd_same), T.clB, T.bSt, (by show 2 < 1000; decide), ?_⟩
    rw [put_stated]
    have fin : ∀ x o, H1 x = some o → x ≠ p → upd (upd (upd (upd (upd H1 p (.ins (gA K "Book") dx [(("held_net" : Str), V.ref n)])) nm (.lst [])) p (.ins (gA K "Book") dx [(("held_net" : Str), V.ref n), (("names" : Str), V.ref nm)])) st (.lst [])) p (.ins (gA K "Book") dx (bF n nm st)) x = some o := fun x o e hx => by
      rw [upd_ne hx, upd_ne (ne_of_none e hst), upd_ne hx, upd_ne (ne_of_none e hnm1), upd_ne hx]
      exact e
    have pk : k ≠ p := fun z => by rw [z, hp1] at h2; cases h2
    have pl : l ≠ p := fun z => by rw [z, hp1] at h3; cases h3
    have hl' : H nm = none := sH.free hnm1
    have hs' : H st = none := sH.free hst
    have s00 : Same H (upd (upd H dn (.own n)) n (.ins (gA K "Net") dn [])) := fun x o e => by
      rw [upd_ne (ne_of_none e nn), upd_ne (ne_of_none e ndn)]
      exact e
    refine q n k l nm st _ ⟨⟨dx, upd_same⟩, ⟨⟨dn, fin _ _ h1 npn.symm⟩, fin _ _ h2 pk, ⟨[], fin _ _ h3 pl, .nil⟩, (fun _ h => nomatch h), (fun _ h => nomatch h)⟩, ?_, ⟨[], ?_, .nil⟩, kl, ne_of_none h2 hnm1, ne_of_none h2 hst, ne_of_none h3 hnm1, ne_of_none h3 hst, nms⟩ (fun a ha => ?_) ?_
    · rw [upd_ne pnm.symm, upd_ne nms, upd_ne pnm.symm, upd_same]
      rfl
    · rw [upd_ne pst.symm, upd_same]
    · simp only [List.mem_cons, List.not_mem_nil, or_false] at ha
      rcases ha with rfl | rfl | rfl | rfl
      · exact s00.free hk
      · exact s00.free hl
      · exact hl'
      · exact hs'
    · exact fun x o e hx => fin x o (sH _ _ e) (fun z => hx (by simp [z]))
theorem sc_atName : FnScope ["self", "name"] ["self", "name"] (defScope sAtName) := ⟨rfl, rfl, rfl, by decide +kernel, rfl, by decide +kernel, by decide +kernel⟩
theorem rm_atName (T : Txt K mg) : Rm P w K mg base 1 "Book" "at_name" ["self", "name"] (spAtName K) := by
  have eC := T.erC "NoClaim" (by decide +kernel)
  refine rm_mk T.bAtName (fun _ _ _ _ _ _ us hl => match us, hl with | [_, _], _ => rfl) sc_atName (fun vs H Q E h => ?_) (fun f cdv A outer s H vs Q E hr h => ?_)
  · obtain ⟨b, n, k, l, nm, st, ps, ts, ss, z, rfl, _⟩ := h
    rfl
  · obtain ⟨b, n, k, l, nm, st, ps, ts, ss, z, rfl, B, qE, q⟩ := h
    obtain ⟨dx, hb⟩ := B.ob
    refine ⟨_, pss_cons (ps_if (pt_cmpR op_notIn_seq (pv 1) (pe_fld (pv 0) rfl) (by rfl)) (pss_one (ps_raise rfl (takes_of rfl rfl rfl rfl) (pmk_own PySem.F.excBase_ValueError eC.ex eC.g eC.kp (raises_own eC.sb eC.ty) rfl))) pss_nil) <|
      pss_one (ps_ret (pe_bm PySem.F.plainAttrs_list PySem.F.slot_list_index PySem.F.type_list_index mt_index (pe_fld (pv 0) rfl) (pa_cons (pv 1) pa_nil))), ?_⟩
    refine ⟨_, rfl, _, rfl, b, _, dx, _, _, rfl, hb, T.clB, T.bNa, bF_names _ _ _, nm, _, rfl, .inl (SqL.of B.hn), rfl, flat_strs _, _, rfl, ?_⟩
    by_cases hm : z ∈ ss.map Std.nm
    · refine ifF (by show (!inV (.str z) ((ss.map Std.nm).map V.str)) = false; rw [inV_str, decide_eq_true hm]; rfl) ?_
      obtain ⟨j, hj⟩ := firstAt_of hm
      refine ⟨_, rfl, b, _, dx, _, _, rfl, hb, T.clB, T.bNa, bF_names _ _ _, .inl ⟨rfl, _, SqL.of B.hn⟩, _, rfl, nm, _, _, j, .str z, rfl, rfl, SqL.of B.hn, rfl, flat_strs _, by rw [List.getElem?_map, hj.1]; rfl, by show decide (z = z) = true; exact decide_eq_true rfl, fun m z' hm' hz' => ?_, q j hj⟩
      obtain ⟨u, hu, rfl⟩ := map_at hz'
      exact decide_eq_false (hj.2 m u hm' hu)
    · refine ifT (by show (!inV (.str z) ((ss.map Std.nm).map V.str)) = true; rw [inV_str, decide_eq_false hm]; rfl) ?_
      exact qE hm _ _ _ (Same.refl _) ⟨rfl, rfl⟩
theorem sc_settle : FnScope ["self", "changes", "at", "name", "claim", "verdict", "paper", "told", "fresh"] ["self"] (defScope sSettle) := ⟨rfl, rfl, rfl, by decide +kernel, rfl, by decide +kernel, by decide +kernel⟩
theorem rm_settle (T : Txt K mg) : Rm P w K mg base 5 "Book" "settle" ["self"] (spSettle K) := by
  obtain ⟨f1, fd1, G1, g1, k1, b1⟩ := (rd_lookClaim (P := P) (w := w) (base := base) T).ex
  refine rm_mk T.bSettle (fun _ _ _ _ _ _ us hl => match us, hl with | [_], _ => rfl) sc_settle (fun vs H Q E h => ?_) (fun f cdv A outer s H vs Q E hr h => ?_)
  · obtain ⟨b, n, k, l, nm, st, ps, ts, ss, rfl, _⟩ := h
    rfl
  · obtain ⟨b, n, k, l, nm, st, ps, ts, ss, rfl, B, hgood, q⟩ := h
    have nd := sc_settle.nd
    refine ⟨_, pss_cons (ps_set (i := 1) nd rfl (Or.inl rfl) (pe_lst pa_nil)) <|
      pss_cons (ps_for (passes_of rfl) rfl (pi_enum rfl T.enum (pa_cons (pe_fld (pv 0) rfl) pa_nil)) (pg_tup (by rfl) (pgs_cons (pg_name (i := 2) nd rfl (Or.inl rfl)) (pgs_cons (pg_name (i := 3) nd rfl (Or.inl rfl)) pgs_nil))) <|
        pss_cons (ps_asg (pe_ix ix_list (pe_fld (pv 0) rfl) (pv 2) (fun _ _ => rfl)) (pg_tup (by rfl) (pgs_cons (pg_name (i := 4) nd rfl (Or.inl rfl)) (pgs_cons (pg_name (i := 5) nd rfl (Or.inl rfl)) (pgs_cons (pg_name (i := 6) nd rfl (Or.inl rfl)) pgs_nil))))) <|
        pss_one (ps_if (pt_not (pt_val (pe_call G1 hr rfl g1 k1 b1 .nil passL (pa_cons (pe_fld (pv 0) rfl) (pa_cons (pv 4) (pa_cons (pv 5) (pa_cons (pv 6) pa_nil))))))) pss_never pss_nil)) <|
      pss_one (ps_ret (pv 1)), ?_⟩
    refine ⟨(by show 0 ≤ sizeLine; decide), fun ch hch => ?_⟩
    have s1 : Same H (upd H ch (.lst [])) := Same.new hch
    generalize upd H ch (.lst []) = H1 at s1 ⊢
    have B1 := B.same s1
    obtain ⟨dx, hb⟩ := B1.ob
    refine ⟨_, rfl, b, _, dx, _, _, rfl, hb, T.clB, T.bNa, bF_names _ _ _, nm, _, rfl, SqL.of B1.hn, for_it walk_enum (fun i σ H' => Same H1 H' ∧ ∃ v2 v3 v4 v5 v6, σ = [some (.ref b), some (.ref ch), v2, v3, v4, v5, v6, none, none])
      ⟨Same.refl _, _, _, _, _, _, rfl⟩ (fun i σ H' _ ⟨s2, _⟩ => SqL.of (s2 _ _ B1.hn)) ?_ ?_⟩
    · rintro i x σ H2 H3 hi ⟨s2, v2, v3, v4, v5, v6, rfl⟩ ⟨t, x0, y0, rfl, ht, rfl, hx0, hy0⟩
      obtain rfl : V.int (i : Nat) = x0 := Option.some.inj hx0
      obtain ⟨z, hz, rfl⟩ := map_at hy0
      have s3 : Same H1 (upd H2 t (.tup [.int (i : Nat), .str z])) := s2.trans (Same.new ht)
      refine ⟨t, _, rfl, SqT.of upd_same, rfl, _, _, rfl, _, _, rfl, rfl, ?_⟩
      generalize upd H2 t (.tup [.int (i : Nat), .str z]) = H3 at s3 ⊢
      have B3 := B1.same s3
      obtain ⟨svs, hst, hsd⟩ := B3.hs
      obtain ⟨dx3, hb3⟩ := B3.ob
      have hi' : i < ss.length := by
        rw [List.length_map, List.length_map] at hi
        exact hi
      have hss : ss[i]? = some ss[i] := List.getElem?_eq_getElem hi'
      obtain ⟨v, hv, hd⟩ := hsd.get (i := i) (d := (ss[i]).d) (by rw [List.getElem?_map, hss]; rfl)
      obtain ⟨a', b', walk, ec, eso, epap, hw⟩ := hgood ss[i] (List.getElem_mem hi')
      have hd2 : Dp K (hid [k, l, nm, st] H3) v (.tuple [(Cl.way a' b').d, .bool true, .list (walk.map PyData.str)]) := by
        have z : (ss[i]).d = .tuple [(Cl.way a' b').d, .bool true, .list (walk.map PyData.str)] := by unfold Std.d; rw [ec, eso, epap]
        rw [z] at hd
        exact hd
      obtain ⟨p, xs, rfl, hs, ha⟩ := dp_tup (Dp.same hid_same _ _ hd2)
      obtain ⟨x1, r1, rfl, h1, ha⟩ := dp_cons ha
      obtain ⟨x2, r2, rfl, h2, ha⟩ := dp_cons ha
      obtain ⟨x3, r3, rfl, h3, ha⟩ := dp_cons ha
      obtain rfl := dp_nil ha
      obtain rfl := dp_bool h2
      refine ⟨_, rfl, b, _, dx3, _, _, rfl, hb3, T.clB, T.bSt, bF_stated _ _ _, _, rfl, st, _, i, _, rfl, rfl, SqL.of hst, at_of (j := i) rfl hv, ?_⟩
      refine ⟨p, _, rfl, hs, rfl, _, _, rfl, _, _, rfl, _, _, rfl, rfl, ?_⟩
      refine ⟨_, rfl, b, _, dx3, _, _, rfl, hb3, T.clB, T.bHe, bF_held _ _ _, _, rfl, _, rfl, _, rfl, n, k, l, ps, ts, _, a', b', x1, x3, walk, rfl, B3.net, h1, h3, hw, ?_⟩
      refine ⟨_, rfl, ifF rfl ?_⟩
      exact ⟨s3, _, _, _, _, _, rfl⟩
    · rintro σ H2 ⟨s2, v2, v3, v4, v5, v6, rfl⟩
      exact ⟨_, rfl, q _ H2 (s1.trans s2)⟩
end
end Nc
end

section
set_option maxHeartbeats 4000000
namespace Nc
open PySem PySem.Spec PyProof.Rows L2
/-! Book: place, tie, cut, alter, net, claims, claim, verdict, paper, forget -/
theorem map_eraseIdx {α β : Type} (f : α → β) : ∀ (l : List α) (i : Nat), (l.eraseIdx i).map f = (l.map f).eraseIdx i
  | [], _ => rfl
  | _ :: _, 0 => rfl
  | x :: l, i + 1 => congrArg (f x :: ·) (map_eraseIdx f l i)
theorem ix_of {xs : List V} {j : Nat} {v : V} (h : xs[j]? = some v) : seqIndex? (j : Int) xs.length = some j := by
  obtain ⟨j', h1, h2, h3, h4, h5⟩ := atI_get (at_of (j := j) rfl h)
  rw [h1]
  have hl := (List.getElem?_eq_some_iff.mp h).1
  unfold seqIndex? at h1
  simp only [show ¬ ((j : Int) < 0) by omega, if_false] at h1
  rw [if_pos (by simp; omega)] at h1
  simpa using h1.symm
theorem Dp.isRef {K : PySem.W.Frag} {H : Hp} {v : V} {ds : List PyData} (h : Dp K H v (.tuple ds)) : ∃ p, v = .ref p := let ⟨p, _, e, _⟩ := dp_tup h; ⟨p, e⟩
/-- what stands at a place of the list of claims -/
theorem BookIs.at {K : PySem.W.Frag} {H : Hp} {b n k l nm st : Addr} {ps : List Str} {ts : List Tie} {ss : List Std} (B : BookIs K H b n k l nm st ps ts ss) {j : Nat} {s : Std} (h : ss[j]? = some s) :
    ∃ svs p x1 x3, H st = some (.lst svs) ∧ svs[j]? = some (.ref p) ∧ SqT K (hid [k, l, nm, st] H) p [x1, .bl s.so, x3] ∧ Dp K (hid [k, l, nm, st] H) x1 s.c.d ∧ Dp K (hid [k, l, nm, st] H) x3 s.pap := by
  obtain ⟨svs, hst, hsd⟩ := B.hs
  obtain ⟨v, hv, hd⟩ := hsd.get (i := j) (d := s.d) (by rw [List.getElem?_map, h]; rfl)
  obtain ⟨p, xs, rfl, hs, ha⟩ := dp_tup hd
  obtain ⟨x1, r1, rfl, h1, ha⟩ := dp_cons ha
  obtain ⟨x2, r2, rfl, h2, ha⟩ := dp_cons ha
  obtain ⟨x3, r3, rfl, h3, ha⟩ := dp_cons ha
  obtain rfl := dp_nil ha
  obtain rfl := dp_bool h2
  exact ⟨svs, p, x1, x3, hst, hv, hs, h1, h3⟩
theorem firstAt_std {ss : List Std} {z : Str} {j : Nat} (h : firstAt (ss.map Std.nm) z j) : ∃ s, ss[j]? = some s ∧ s.nm = z := by
  have e := h.1
  rw [List.getElem?_map] at e
  cases q : ss[j]? with
  | none =>
    rw [q] at e
    cases e
  | some s =>
    rw [q] at e
    exact ⟨s, rfl, Option.some.inj e⟩
def spBkPlace (K : PySem.W.Frag) : Sp := fun vs H Q E => ∃ (b n k l nm st : Addr) (ps : List Str) (ts : List Tie) (ss : List Std) (z : Str), vs = [.ref b, .str z] ∧ BookIs K H b n k l nm st ps ts ss ∧ z.length ≤ sizeLine ∧ ps.length ≤ 1000 ∧
  (∀ e, placeEr ps z = some e → Refuses K e H E) ∧ (placeEr ps z = none → PyData.strOk z = true ∧ (∀ s ∈ ss, s.good ts) ∧ ∀ v H', SameBut [k] H H' → BookIs K H' b n k l nm st (ps ++ [z]) ts ss → Q v H')
def spBkTie (K : PySem.W.Frag) : Sp := fun vs H Q E => ∃ (b n k l nm st : Addr) (ps : List Str) (ts : List Tie) (ss : List Std) (z x y : Str) (wd c : Int), vs = [.ref b, .str z, .str x, .str y, .int wd, .int c] ∧ BookIs K H b n k l nm st ps ts ss ∧ (∀ u ∈ [z, x, y], u.length ≤ sizeLine) ∧
  ps.length ≤ 1000 ∧ ts.length ≤ 1000 ∧ (∀ e, tieEr ps ts z x y wd = some e → Refuses K e H E) ∧ (tieEr ps ts z x y wd = none → ss = [] ∧ Tie.ok ⟨z, x, y, wd, c⟩ ∧ ∀ v H', SameBut [k, l] H H' → BookIs K H' b n k l nm st (ps ++ freshOf ps [x, y]) (ts ++ [⟨z, x, y, wd, c⟩]) ss → Q v H')
def spBkCut (K : PySem.W.Frag) : Sp := fun vs H Q E => ∃ (b n k l nm st : Addr) (ps : List Str) (ts : List Tie) (ss : List Std) (z : Str), vs = [.ref b, .str z] ∧ BookIs K H b n k l nm st ps ts ss ∧ named ts z = none ∧ Refuses K .tie H E
def spBkAlter (K : PySem.W.Frag) : Sp := fun vs H Q E => ∃ (b n k l nm st : Addr) (ps : List Str) (ts : List Tie) (ss : List Std) (z : Str) (wd c : Int), vs = [.ref b, .str z, .int wd, .int c] ∧ BookIs K H b n k l nm st ps ts ss ∧ wd < 1 ∧ Refuses K (alterEr ts z) H E
def spBkNet (K : PySem.W.Frag) : Sp := fun vs H Q _ => ∃ (b n k l nm st : Addr) (ps : List Str) (ts : List Tie) (ss : List Std), vs = [.ref b] ∧ BookIs K H b n k l nm st ps ts ss ∧ ∀ n2 k2 l2 H', Same H H' → NetIs K H' n2 k2 l2 ps ts [] → Q (.ref n2) H'
def spBkClaims (K : PySem.W.Frag) : Sp := fun vs H Q _ => ∃ (b n k l nm st : Addr) (ps : List Str) (ts : List Tie) (ss : List Std), vs = [.ref b] ∧ BookIs K H b n k l nm st ps ts ss ∧ NewStrs H (ss.map Std.nm) Q
def spBkAt (K : PySem.W.Frag) (W : Addr → Addr → Addr → Addr → Std → Hp → VK → Prop) : Sp := fun vs H Q E => ∃ (b n k l nm st : Addr) (ps : List Str) (ts : List Tie) (ss : List Std) (z : Str), vs = [.ref b, .str z] ∧ BookIs K H b n k l nm st ps ts ss ∧
  (z ∉ ss.map Std.nm → Refuses K .claim H E) ∧ ∀ j s, firstAt (ss.map Std.nm) z j → ss[j]? = some s → W k l nm st s H Q
def wClaim : Addr → Addr → Addr → Addr → Std → Hp → VK → Prop := fun _ _ _ _ s H Q => ∃ ws : List Str, s.c.d = .tuple (ws.map PyData.str) ∧ ws.length ≤ 1000 ∧ NewTup H ws Q
def wVerdict : Addr → Addr → Addr → Addr → Std → Hp → VK → Prop := fun _ _ _ _ s H Q => Q (.bl s.so) H
def spBkPaper (K : PySem.W.Frag) : Sp := fun vs H Q E => ∃ (b n k l nm st : Addr) (ps : List Str) (ts : List Tie) (ss : List Std) (z : Str) (H0 : Hp) (ns : List Addr), vs = [.ref b, .str z] ∧ BookIs K H0 b n k l nm st ps ts ss ∧ Same H0 H ∧
  (∀ a ∈ ns, H0 a = none ∧ ∃ o, H a = some o) ∧ (z ∉ ss.map Std.nm → Refuses K .claim H E) ∧ ∀ j s, firstAt (ss.map Std.nm) z j → ss[j]? = some s → papOk 2 s.pap ∧ ∀ v H', Same H H' → Dp K (hid ns H') v s.pap → Q v H'
def spBkForget (K : PySem.W.Frag) : Sp := fun vs H Q E => ∃ (b n k l nm st : Addr) (ps : List Str) (ts : List Tie) (ss : List Std) (z : Str), vs = [.ref b, .str z] ∧ BookIs K H b n k l nm st ps ts ss ∧ ss.length ≤ 1000 ∧
  (z ∉ ss.map Std.nm → Refuses K .claim H E) ∧ ∀ j, firstAt (ss.map Std.nm) z j → ∀ v H', SameBut [nm, st] H H' → BookIs K H' b n k l nm st ps ts (ss.eraseIdx j) → Q v H'
section
variable {P : Program} {w : World} {K : PySem.W.Frag} {mg : Str → Option Value} {base : Heap}
theorem sc_bkPlace : FnScope ["self", "name"] ["self", "name"] (defScope sBkPlace) := ⟨rfl, rfl, rfl, by decide +kernel, rfl, by decide +kernel, by decide +kernel⟩
theorem rm_bkPlace (T : Txt K mg) : Rm P w K mg base 6 "Book" "place" ["self", "name"] (spBkPlace K) := by
  obtain ⟨f1, fd1, G1, m1, b1⟩ := ((rm_place (P := P) (w := w) (base := base) T).mono (show 3 ≤ 5 by decide)).ex
  obtain ⟨f2, fd2, G2, m2, b2⟩ := (rm_settle (P := P) (w := w) (base := base) T).ex
  refine rm_mk T.bPlace (fun _ _ _ _ _ _ us hl => match us, hl with | [_, _], _ => rfl) sc_bkPlace (fun vs H Q E h => ?_) (fun f cdv A outer s H vs Q E hr h => ?_)
  · obtain ⟨b, n, k, l, nm, st, ps, ts, ss, z, rfl, _⟩ := h
    rfl
  · obtain ⟨b, n, k, l, nm, st, ps, ts, ss, z, rfl, B, hz, hps, qE, q⟩ := h
    refine ⟨_, pss_cons (ps_expr (pe_meth (pe_fld (pv 0) rfl) T.clN m1 G1 hr b1 .nil passX (pa_cons (pv 1) pa_nil))) <| pss_one (ps_ret (pe_meth0 (pv 0) T.clB m2 G2 hr b2 .nil passL)), ?_⟩
    obtain ⟨dx, hb⟩ := B.ob
    obtain ⟨dn, hn⟩ := B.net.ob
    refine ⟨_, rfl, b, _, dx, _, _, rfl, hb, T.clB, T.bHe, bF_held _ _ _, n, dn, _, rfl, hn, nF_no _ _ (by decide +kernel) (by decide +kernel), _, rfl, n, k, l, ps, ts, _, z, rfl, B.net, hz, hps, qE, fun e0 H1 sb hk => ?_⟩
    obtain ⟨hok, hgood, q⟩ := q e0
    have B1 : BookIs K H1 b n k l nm st (ps ++ [z]) ts ss := by
      obtain ⟨_, ⟨_, _, ⟨tvs, hl, hta⟩, okp, okt⟩, hnm, ⟨svs, hst, hsd⟩, kl, kn, ks, ln, ls, ns⟩ := id B
      have hk0 := B.net.hk
      have sb4 : SameBut [k, l, nm, st] H H1 := sb.mono fun x hx => by simp at hx; simp [hx]
      refine ⟨⟨dx, sb _ _ hb ?_⟩, ⟨⟨dn, sb _ _ hn ?_⟩, hk, ⟨tvs, sb _ _ hl ?_, DpAll.same sb4.hid _ _ hta⟩, ?_, okt⟩, sb _ _ hnm ?_, ⟨svs, sb _ _ hst ?_, DpAll.same sb4.hid _ _ hsd⟩, kl, kn, ks, ln, ls, ns⟩
      · simpa using ne_of hb hk0 (fun z => nomatch z)
      · simpa using ne_of hn hk0 (fun z => nomatch z)
      · simpa using kl.symm
      · intro p hp
        rcases List.mem_append.mp hp with h | h
        · exact okp p h
        · simp at h
          rw [h]
          exact hok
      · simpa using kn.symm
      · simpa using ks.symm
    obtain ⟨dx1, hb1⟩ := B1.ob
    refine ⟨_, rfl, b, dx1, _, rfl, hb1, bF_no _ _ _ (by decide +kernel) (by decide +kernel) (by decide +kernel), b, n, k, l, nm, st, _, ts, ss, rfl, B1, hgood, fun v H2 s2 => ?_⟩
    exact q v H2 (sb.trans s2.but) (B1.same s2)
theorem sc_bkTie : FnScope ["self", "name", "a", "b", "width", "cost"] ["self", "name", "a", "b", "width", "cost"] (defScope sBkTie) := ⟨rfl, rfl, rfl, by decide +kernel, rfl, by decide +kernel, by decide +kernel⟩
theorem rm_bkTie (T : Txt K mg) : Rm P w K mg base 6 "Book" "tie" ["self", "name", "a", "b", "width", "cost"] (spBkTie K) := by
  obtain ⟨f1, fd1, G1, m1, b1⟩ := ((rm_tie (P := P) (w := w) (base := base) T).mono (show 3 ≤ 5 by decide)).ex
  obtain ⟨f2, fd2, G2, m2, b2⟩ := (rm_settle (P := P) (w := w) (base := base) T).ex
  refine rm_mk T.bTie (fun _ _ _ _ _ _ us hl => match us, hl with | [_, _, _, _, _, _], _ => rfl) sc_bkTie (fun vs H Q E h => ?_) (fun f cdv A outer s H vs Q E hr h => ?_)
  · obtain ⟨b, n, k, l, nm, st, ps, ts, ss, z, x, y, wd, c, rfl, _⟩ := h
    rfl
  · obtain ⟨b, n, k, l, nm, st, ps, ts, ss, z, x, y, wd, c, rfl, B, hz, hps, hts, qE, q⟩ := h
    refine ⟨_, pss_cons (ps_expr (pe_meth (pe_fld (pv 0) rfl) T.clN m1 G1 hr b1 .nil passX (pa_cons (pv 1) (pa_cons (pv 2) (pa_cons (pv 3) (pa_cons (pv 4) (pa_cons (pv 5) pa_nil))))))) <| pss_one (ps_ret (pe_meth0 (pv 0) T.clB m2 G2 hr b2 .nil passL)), ?_⟩
    obtain ⟨dx, hb⟩ := B.ob
    obtain ⟨dn, hn⟩ := B.net.ob
    refine ⟨_, rfl, b, _, dx, _, _, rfl, hb, T.clB, T.bHe, bF_held _ _ _, n, dn, _, rfl, hn, nF_no _ _ (by decide +kernel) (by decide +kernel), _, rfl, _, rfl, _, rfl, _, rfl, _, rfl, n, k, l, ps, ts, _, z, x, y, wd, c, rfl, B.net, B.kl, hz, hps, hts, qE, fun e0 H1 t tvs1 sb hk hl1 hl2 ht htn => ?_⟩
    obtain ⟨rfl, hok, q⟩ := q e0
    have B1 : BookIs K H1 b n k l nm st (ps ++ freshOf ps [x, y]) (ts ++ [⟨z, x, y, wd, c⟩]) [] := by
      have hkn := B.known
      obtain ⟨_, ⟨_, hk0, ⟨tvs, hl, hta⟩, okp, okt⟩, hnm, ⟨svs, hst, hsd⟩, kl, kn, ks, ln, ls, ns⟩ := id B
      have sb4 : SameBut [k, l, nm, st] H H1 := sb.mono fun x hx => by
        simp only [List.mem_cons, List.not_mem_nil, or_false] at hx ⊢
        rcases hx with h | h
        · exact .inl h
        · exact .inr (.inl h)
      have e1 : tvs = tvs1 := by
        rw [hl] at hl1
        injection hl1 with z
        injection z
      subst e1
      have ntm : t ∉ [k, l, nm, st] := known_not hkn htn
      refine ⟨⟨dx, sb _ _ hb ?_⟩, ⟨⟨dn, sb _ _ hn ?_⟩, hk, ⟨tvs ++ [.ref t], hl2, ?_⟩, ?_, ?_⟩, sb _ _ hnm ?_, ⟨svs, sb _ _ hst ?_, DpAll.same sb4.hid _ _ hsd⟩, kl, kn, ks, ln, ls, ns⟩
      · simpa using And.intro (ne_of hb hk0 (fun z => nomatch z)) (ne_of hb hl (fun z => nomatch z))
      · simpa using And.intro (ne_of hn hk0 (fun z => nomatch z)) (ne_of hn hl (fun z => nomatch z))
      · rw [List.map_append]
        exact (DpAll.same sb4.hid _ _ hta).append (.cons (Tie.mk_dp (t := ⟨z, x, y, wd, c⟩) (SqT.of (by rw [hid_of ntm]; exact ht))) .nil)
      · intro p hp
        rcases List.mem_append.mp hp with h | h
        · exact okp p h
        · have h2 := (List.mem_filter.mp h).1
          simp only [List.mem_cons, List.not_mem_nil, or_false] at h2
          rcases h2 with rfl | rfl
          · exact hok.2.1
          · exact hok.2.2
      · intro u hu
        rcases List.mem_append.mp hu with h | h
        · exact okt u h
        · simp only [List.mem_cons, List.not_mem_nil, or_false] at h
          rw [h]
          exact hok
      · simpa using And.intro kn.symm ln.symm
      · simpa using And.intro ks.symm ls.symm
    obtain ⟨dx1, hb1⟩ := B1.ob
    refine ⟨_, rfl, b, dx1, _, rfl, hb1, bF_no _ _ _ (by decide +kernel) (by decide +kernel) (by decide +kernel), b, n, k, l, nm, st, _, _, [], rfl, B1, (fun _ h => nomatch h), fun v H2 s2 => ?_⟩
    exact q v H2 (sb.trans s2.but) (B1.same s2)
theorem sc_bkCut : FnScope ["self", "name"] ["self", "name"] (defScope sBkCut) := ⟨rfl, rfl, rfl, by decide +kernel, rfl, by decide +kernel, by decide +kernel⟩
theorem rm_bkCut (T : Txt K mg) : Rm P w K mg base 4 "Book" "cut" ["self", "name"] (spBkCut K) := by
  obtain ⟨f1, fd1, G1, m1, b1⟩ := (rm_cut (P := P) (w := w) (base := base) T).ex
  refine rm_mk T.bCut (fun _ _ _ _ _ _ us hl => match us, hl with | [_, _], _ => rfl) sc_bkCut (fun vs H Q E h => ?_) (fun f cdv A outer s H vs Q E hr h => ?_)
  · obtain ⟨b, n, k, l, nm, st, ps, ts, ss, z, rfl, _⟩ := h
    rfl
  · obtain ⟨b, n, k, l, nm, st, ps, ts, ss, z, rfl, B, e0, qE⟩ := h
    refine ⟨_, pss_cons (ps_expr (pe_meth (pe_fld (pv 0) rfl) T.clN m1 G1 hr b1 .nil passX (pa_cons (pv 1) pa_nil))) pss_never, ?_⟩
    obtain ⟨dx, hb⟩ := B.ob
    obtain ⟨dn, hn⟩ := B.net.ob
    exact ⟨_, rfl, b, _, dx, _, _, rfl, hb, T.clB, T.bHe, bF_held _ _ _, n, dn, _, rfl, hn, nF_no _ _ (by decide +kernel) (by decide +kernel), _, rfl, n, k, l, ps, ts, _, z, rfl, B.net, e0, qE⟩
theorem sc_bkAlter : FnScope ["self", "name", "width", "cost"] ["self", "name", "width", "cost"] (defScope sBkAlter) := ⟨rfl, rfl, rfl, by decide +kernel, rfl, by decide +kernel, by decide +kernel⟩
theorem rm_bkAlter (T : Txt K mg) : Rm P w K mg base 4 "Book" "alter" ["self", "name", "width", "cost"] (spBkAlter K) := by
  obtain ⟨f1, fd1, G1, m1, b1⟩ := (rm_alter (P := P) (w := w) (base := base) T).ex
  refine rm_mk T.bAlter (fun _ _ _ _ _ _ us hl => match us, hl with | [_, _, _, _], _ => rfl) sc_bkAlter (fun vs H Q E h => ?_) (fun f cdv A outer s H vs Q E hr h => ?_)
  · obtain ⟨b, n, k, l, nm, st, ps, ts, ss, z, wd, c, rfl, _⟩ := h
    rfl
  · obtain ⟨b, n, k, l, nm, st, ps, ts, ss, z, wd, c, rfl, B, hw, qE⟩ := h
    refine ⟨_, pss_cons (ps_expr (pe_meth (pe_fld (pv 0) rfl) T.clN m1 G1 hr b1 .nil passX (pa_cons (pv 1) (pa_cons (pv 2) (pa_cons (pv 3) pa_nil))))) pss_never, ?_⟩
    obtain ⟨dx, hb⟩ := B.ob
    obtain ⟨dn, hn⟩ := B.net.ob
    exact ⟨_, rfl, b, _, dx, _, _, rfl, hb, T.clB, T.bHe, bF_held _ _ _, n, dn, _, rfl, hn, nF_no _ _ (by decide +kernel) (by decide +kernel), _, rfl, _, rfl, _, rfl, n, k, l, ps, ts, _, z, wd, c, rfl, B.net, hw, qE⟩
theorem sc_bkNet : FnScope ["self"] ["self"] (defScope sBkNet) := ⟨rfl, rfl, rfl, by decide +kernel, rfl, by decide +kernel, by decide +kernel⟩
theorem rm_bkNet (T : Txt K mg) : Rm P w K mg base 4 "Book" "net" ["self"] (spBkNet K) := by
  obtain ⟨f1, fd1, G1, m1, b1⟩ := (rm_twin (P := P) (w := w) (base := base) T).ex
  refine rm_mk T.bNet (fun _ _ _ _ _ _ us hl => match us, hl with | [_], _ => rfl) sc_bkNet (fun vs H Q E h => ?_) (fun f cdv A outer s H vs Q E hr h => ?_)
  · obtain ⟨b, n, k, l, nm, st, ps, ts, ss, rfl, _⟩ := h
    rfl
  · obtain ⟨b, n, k, l, nm, st, ps, ts, ss, rfl, B, q⟩ := h
    refine ⟨_, pss_one (ps_ret (pe_meth0 (pe_fld (pv 0) rfl) T.clN m1 G1 hr b1 .nil passL)), ?_⟩
    obtain ⟨dx, hb⟩ := B.ob
    obtain ⟨dn, hn⟩ := B.net.ob
    exact ⟨_, rfl, b, _, dx, _, _, rfl, hb, T.clB, T.bHe, bF_held _ _ _, n, dn, _, rfl, hn, nF_no _ _ (by decide +kernel) (by decide +kernel), n, k, l, ps, ts, _, rfl, B.net, q⟩
theorem sc_bkClaims : FnScope ["self"] ["self"] (defScope sBkClaims) := ⟨rfl, rfl, rfl, by decide +kernel, rfl, by decide +kernel, by decide +kernel⟩
theorem rm_bkClaims (T : Txt K mg) : Rm P w K mg base 1 "Book" "claims" ["self"] (spBkClaims K) := by
  refine rm_mk T.bClaims (fun _ _ _ _ _ _ us hl => match us, hl with | [_], _ => rfl) sc_bkClaims (fun vs H Q E h => ?_) (fun f cdv A outer s H vs Q E hr h => ?_)
  · obtain ⟨b, n, k, l, nm, st, ps, ts, ss, rfl, _⟩ := h
    rfl
  · obtain ⟨b, n, k, l, nm, st, ps, ts, ss, rfl, B, q⟩ := h
    refine ⟨_, pss_one (ps_ret (pe_callTy call_list_of rfl T.list boot_list (pa_cons (pe_fld (pv 0) rfl) pa_nil))), ?_⟩
    obtain ⟨dx, hb⟩ := B.ob
    exact ⟨_, rfl, b, _, dx, _, _, rfl, hb, T.clB, T.bNa, bF_names _ _ _, nm, _, rfl, .inl (SqL.of B.hn), fun r h => q.here rfl h⟩
theorem sc_bkClaim : FnScope ["self", "name"] ["self", "name"] (defScope sBkClaim) := ⟨rfl, rfl, rfl, by decide +kernel, rfl, by decide +kernel, by decide +kernel⟩
theorem rm_bkClaim (T : Txt K mg) : Rm P w K mg base 3 "Book" "claim" ["self", "name"] (spBkAt K wClaim) := by
  obtain ⟨f1, fd1, G1, g1, k1, b1⟩ := (rd_kept (P := P) (w := w) (base := base) T).ex
  obtain ⟨f2, fd2, G2, m2, b2⟩ := ((rm_atName (P := P) (w := w) (base := base) T).mono (show 1 ≤ 2 by decide)).ex
  refine rm_mk T.bClaim (fun _ _ _ _ _ _ us hl => match us, hl with | [_, _], _ => rfl) sc_bkClaim (fun vs H Q E h => ?_) (fun f cdv A outer s H vs Q E hr h => ?_)
  · obtain ⟨b, n, k, l, nm, st, ps, ts, ss, z, rfl, _⟩ := h
    rfl
  · obtain ⟨b, n, k, l, nm, st, ps, ts, ss, z, rfl, B, qE, q⟩ := h
    refine ⟨_, pss_one (ps_ret (pe_call G1 hr rfl g1 k1 b1 .nil passL (pa_cons (pe_ix ix_tup (pe_ix ix_list (pe_fld (pv 0) rfl) (pe_meth (pv 0) T.clB m2 G2 hr b2 .nil passX (pa_cons (pv 1) pa_nil)) (fun _ _ => rfl)) pe_int (fun _ _ => rfl)) pa_nil))), ?_⟩
    obtain ⟨dx, hb⟩ := B.ob
    refine ⟨_, rfl, b, _, dx, _, _, rfl, hb, T.clB, T.bSt, bF_stated _ _ _, _, rfl, b, dx, _, rfl, hb, bF_no _ _ _ (by decide +kernel) (by decide +kernel) (by decide +kernel), _, rfl, b, n, k, l, nm, st, ps, ts, ss, z, rfl, B, qE, fun j hj => ?_⟩
    obtain ⟨s, hs, _⟩ := firstAt_std hj
    obtain ⟨ws, ew, lw, nq⟩ : ∃ ws : List Str, s.c.d = .tuple (ws.map PyData.str) ∧ ws.length ≤ 1000 ∧ NewTup H ws Q := q j s hj hs
    obtain ⟨svs, p, x1, x3, hst, hv, hp, h1, h3⟩ := B.at hs
    rw [ew] at h1
    obtain ⟨pc, rfl, hc⟩ := dp_strs (Dp.same hid_same _ _ h1)
    exact ⟨st, _, j, _, rfl, rfl, SqL.of hst, at_of (j := j) rfl hv, p, _, 0, _, rfl, rfl, Same.seqT hid_same hp, at_of (j := 0) rfl rfl, pc, ws, rfl, hc, lw, nq⟩
theorem sc_bkVerdict : FnScope ["self", "name"] ["self", "name"] (defScope sBkVerdict) := ⟨rfl, rfl, rfl, by decide +kernel, rfl, by decide +kernel, by decide +kernel⟩
theorem rm_bkVerdict (T : Txt K mg) : Rm P w K mg base 3 "Book" "verdict" ["self", "name"] (spBkAt K wVerdict) := by
  obtain ⟨f2, fd2, G2, m2, b2⟩ := ((rm_atName (P := P) (w := w) (base := base) T).mono (show 1 ≤ 2 by decide)).ex
  refine rm_mk T.bVerdict (fun _ _ _ _ _ _ us hl => match us, hl with | [_, _], _ => rfl) sc_bkVerdict (fun vs H Q E h => ?_) (fun f cdv A outer s H vs Q E hr h => ?_)
  · obtain ⟨b, n, k, l, nm, st, ps, ts, ss, z, rfl, _⟩ := h
    rfl
  · obtain ⟨b, n, k, l, nm, st, ps, ts, ss, z, rfl, B, qE, q⟩ := h
    refine ⟨_, pss_one (ps_ret (pe_ix ix_tup (pe_ix ix_list (pe_fld (pv 0) rfl) (pe_meth (pv 0) T.clB m2 G2 hr b2 .nil passX (pa_cons (pv 1) pa_nil)) (fun _ _ => rfl)) pe_int (fun _ _ => rfl))), ?_⟩
    obtain ⟨dx, hb⟩ := B.ob
    refine ⟨_, rfl, b, _, dx, _, _, rfl, hb, T.clB, T.bSt, bF_stated _ _ _, _, rfl, b, dx, _, rfl, hb, bF_no _ _ _ (by decide +kernel) (by decide +kernel) (by decide +kernel), _, rfl, b, n, k, l, nm, st, ps, ts, ss, z, rfl, B, qE, fun j hj => ?_⟩
    obtain ⟨s, hs, _⟩ := firstAt_std hj
    have nq : Q (.bl s.so) H := q j s hj hs
    obtain ⟨svs, p, x1, x3, hst, hv, hp, h1, h3⟩ := B.at hs
    exact ⟨st, _, j, _, rfl, rfl, SqL.of hst, at_of (j := j) rfl hv, p, _, 1, _, rfl, rfl, Same.seqT hid_same hp, at_of (j := 1) rfl rfl, nq⟩
theorem sc_bkPaper : FnScope ["self", "name"] ["self", "name"] (defScope sBkPaper) := ⟨rfl, rfl, rfl, by decide +kernel, rfl, by decide +kernel, by decide +kernel⟩
theorem rm_bkPaper (T : Txt K mg) : Rm P w K mg base 4 "Book" "paper" ["self", "name"] (spBkPaper K) := by
  obtain ⟨f1, fd1, G1, g1, k1, b1⟩ := (rd_copied (P := P) (w := w) (base := base) T 2).ex
  obtain ⟨f2, fd2, G2, m2, b2⟩ := ((rm_atName (P := P) (w := w) (base := base) T).mono (show 1 ≤ 3 by decide)).ex
  refine rm_mk T.bPaper (fun _ _ _ _ _ _ us hl => match us, hl with | [_, _], _ => rfl) sc_bkPaper (fun vs H Q E h => ?_) (fun f cdv A outer s H vs Q E hr h => ?_)
  · obtain ⟨b, n, k, l, nm, st, ps, ts, ss, z, H0, ns, rfl, _⟩ := h
    rfl
  · obtain ⟨b, n, k, l, nm, st, ps, ts, ss, z, H0, ns, rfl, B0, s0, hns, qE, q⟩ := h
    have B := B0.same s0
    refine ⟨_, pss_one (ps_ret (pe_call G1 hr rfl g1 k1 b1 .nil passL (pa_cons (pe_ix ix_tup (pe_ix ix_list (pe_fld (pv 0) rfl) (pe_meth (pv 0) T.clB m2 G2 hr b2 .nil passX (pa_cons (pv 1) pa_nil)) (fun _ _ => rfl)) pe_int (fun _ _ => rfl)) pa_nil))), ?_⟩
    obtain ⟨dx, hb⟩ := B.ob
    refine ⟨_, rfl, b, _, dx, _, _, rfl, hb, T.clB, T.bSt, bF_stated _ _ _, _, rfl, b, dx, _, rfl, hb, bF_no _ _ _ (by decide +kernel) (by decide +kernel) (by decide +kernel), _, rfl, b, n, k, l, nm, st, ps, ts, ss, z, rfl, B, qE, fun j hj => ?_⟩
    obtain ⟨s, hs, _⟩ := firstAt_std hj
    obtain ⟨pk, nq⟩ := q j s hj hs
    obtain ⟨svs, p, x1, x3, hst, hv, hp, h1, h3⟩ := B0.at hs
    have hp1 : SqT K H p [x1, .bl s.so, x3] := Same.seqT s0 (Same.seqT hid_same hp)
    have h31 : Dp K (hid ns H) x3 s.pap := Dp.same (same_new s0 fun a ha => (hns a ha).1) _ _ (Dp.same hid_same _ _ h3)
    exact ⟨st, _, j, _, rfl, rfl, SqL.of (s0 _ _ hst), at_of (j := j) rfl hv, p, _, 2, _, rfl, rfl, hp1, at_of (j := 2) rfl rfl, x3, s.pap, ns, rfl, h31, fun a ha => (hns a ha).2, pk, nq⟩
theorem sc_bkForget : FnScope ["self", "name", "at"] ["self", "name"] (defScope sBkForget) := ⟨rfl, rfl, rfl, by decide +kernel, rfl, by decide +kernel, by decide +kernel⟩
theorem rm_bkForget (T : Txt K mg) : Rm P w K mg base 2 "Book" "forget" ["self", "name"] (spBkForget K) := by
  obtain ⟨f2, fd2, G2, m2, b2⟩ := (rm_atName (P := P) (w := w) (base := base) T).ex
  refine rm_mk T.bForget (fun _ _ _ _ _ _ us hl => match us, hl with | [_, _], _ => rfl) sc_bkForget (fun vs H Q E h => ?_) (fun f cdv A outer s H vs Q E hr h => ?_)
  · obtain ⟨b, n, k, l, nm, st, ps, ts, ss, z, rfl, _⟩ := h
    rfl
  · obtain ⟨b, n, k, l, nm, st, ps, ts, ss, z, rfl, B, hlen, qE, q⟩ := h
    have nd := sc_bkForget.nd
    refine ⟨_, pss_cons (ps_set (i := 2) nd rfl (Or.inl rfl) (pe_meth (pv 0) T.clB m2 G2 hr b2 .nil passX (pa_cons (pv 1) pa_nil))) <|
      pss_cons (ps_expr (pe_bm PySem.F.plainAttrs_list PySem.F.slot_list_pop PySem.F.type_list_pop mt_popAt (pe_fld (pv 0) rfl) (pa_cons (pv 2) pa_nil))) <|
      pss_one (ps_expr (pe_bm PySem.F.plainAttrs_list PySem.F.slot_list_pop PySem.F.type_list_pop mt_popAt (pe_fld (pv 0) rfl) (pa_cons (pv 2) pa_nil))), ?_⟩
    obtain ⟨dx, hb⟩ := B.ob
    refine ⟨_, rfl, b, dx, _, rfl, hb, bF_no _ _ _ (by decide +kernel) (by decide +kernel) (by decide +kernel), _, rfl, b, n, k, l, nm, st, ps, ts, ss, z, rfl, B, qE, fun j hj => ?_⟩
    obtain ⟨s, hs, _⟩ := firstAt_std hj
    have q := q j hj
    have hjl : j < ss.length := (List.getElem?_eq_some_iff.mp hs).1
    obtain ⟨_, ⟨⟨dn, hnn⟩, hk0, ⟨tvs, hl, hta⟩, okp, okt⟩, hnm, ⟨svs, hst, hsd⟩, kl, kn, ks, ln, ls, ns⟩ := id B
    obtain ⟨svs', p, x1, x3, hst', hv, _⟩ := B.at hs
    have e1 : svs' = svs := by
      rw [hst] at hst'
      injection hst' with z
      injection z with z
      exact z.symm
    subst e1
    have hn1 : ((ss.map Std.nm).map V.str)[j]? = some (.str z) := by rw [List.getElem?_map, hj.1]; rfl
    refine ⟨_, rfl, b, _, dx, _, _, rfl, hb, T.clB, T.bNa, bF_names _ _ _, .inl ⟨rfl, _, SqL.of hnm⟩, _, rfl, nm, _, j, j, _, rfl, rfl, hnm, by omega, by omega, ix_of hn1, hn1, ?_⟩
    have nbn : b ≠ nm := ne_of hb hnm (fun z => nomatch z)
    have nbs : b ≠ st := ne_of hb hst (fun z => nomatch z)
    refine ⟨_, rfl, b, _, dx, _, _, rfl, by rw [upd_ne nbn]; exact hb, T.clB, T.bSt, bF_stated _ _ _, .inl ⟨rfl, _, SqL.of (by rw [upd_ne ns.symm]; exact hst)⟩, _, rfl, st, _, j, j, _, rfl, rfl, by rw [upd_ne ns.symm]; exact hst, by omega, by omega, ix_of hv, hv, ?_⟩
    have sb : SameBut [nm, st] H (upd (upd H nm (.lst (((ss.map Std.nm).map V.str).eraseIdx j))) st (.lst (svs'.eraseIdx j))) := (((Same.refl H).but).upd (by simp)).upd (by simp)
    refine q _ _ sb ?_
    have sb4 : SameBut [k, l, nm, st] H (upd (upd H nm (.lst (((ss.map Std.nm).map V.str).eraseIdx j))) st (.lst (svs'.eraseIdx j))) := sb.mono fun x hx => by
      simp only [List.mem_cons, List.not_mem_nil, or_false] at hx ⊢
      exact .inr (.inr hx)
    refine ⟨⟨dx, sb _ _ hb (by simp [nbn, nbs])⟩, ⟨⟨dn, sb _ _ hnn ?_⟩, sb _ _ hk0 (by simp [kn, ks]), ⟨tvs, sb _ _ hl (by simp [ln, ls]), DpAll.same sb4.hid _ _ hta⟩, okp, okt⟩, ?_, ⟨svs'.eraseIdx j, upd_same, ?_⟩, kl, kn, ks, ln, ls, ns⟩
    · simpa using And.intro (ne_of hnn hnm (fun z => nomatch z)) (ne_of hnn hst (fun z => nomatch z))
    · rw [upd_ne ns, upd_same, map_eraseIdx, map_eraseIdx]
    · rw [map_eraseIdx]
      exact (DpAll.same sb4.hid _ _ hsd).eraseIdx j
end
end Nc
end

section
set_option maxHeartbeats 4000000
namespace Nc
open PySem PySem.Spec PyProof.Rows L2
/-! Book: state -/
def stateEr (ps names : List Str) (z : Str) (c : Cl) : Option Er := if isName z = false then some .name else if z ∈ names then some .twice else (stranger ps c.names).map Er.place
def spBkState (K : PySem.W.Frag) : Sp := fun vs H Q E => ∃ (b n k l nm st : Addr) (ps : List Str) (ts : List Tie) (ss : List Std) (z : Str) (v : V) (c : Cl), vs = [.ref b, .str z, v] ∧ BookIs K H b n k l nm st ps ts ss ∧ z.length ≤ sizeLine ∧ ss.length ≤ 1000 ∧
  Dp K H v c.d ∧ c.deep < 4 ∧ c.sz ≤ 1000 ∧ (∀ e, stateEr ps (ss.map Std.nm) z c = some e → Refuses K e H E) ∧
  (stateEr ps (ss.map Std.nm) z c = none → ∃ (ws : List Str) (so : Bool) (pap : PyData), c.d = .tuple (ws.map PyData.str) ∧ ws.length ≤ 1000 ∧ Found ps ts c (.tuple [.bool so, pap]) ∧
    ∀ H', SameBut [nm, st] H H' → BookIs K H' b n k l nm st ps ts (ss ++ [⟨z, c, so, pap⟩]) → Q (.bl so) H')
section
variable {P : Program} {w : World} {K : PySem.W.Frag} {mg : Str → Option Value} {base : Heap}
theorem sc_bkState : FnScope ["self", "name", "claim", "held", "verdict", "paper"] ["self", "name", "claim"] (defScope sBkState) := ⟨rfl, rfl, rfl, by decide +kernel, rfl, by decide +kernel, by decide +kernel⟩
theorem rm_bkState (T : Txt K mg) : Rm P w K mg base 9 "Book" "state" ["self", "name", "claim"] (spBkState K) := by
  obtain ⟨f1, fd1, G1, g1, k1, b1⟩ := ((rd_lookName (P := P) (w := w) (base := base) T).mono (show 2 ≤ 8 by decide)).ex
  obtain ⟨f2, fd2, G2, g2, k2, b2⟩ := (rd_lookAt (P := P) (w := w) (base := base) T).ex
  obtain ⟨f3, fd3, G3, g3, k3, b3⟩ := ((rd_kept (P := P) (w := w) (base := base) T).mono (show 2 ≤ 8 by decide)).ex
  obtain ⟨f4, fd4, G4, g4, k4, b4⟩ := ((rd_findClaim (P := P) (w := w) (base := base) T).mono (show 6 ≤ 8 by decide)).ex
  have eT := T.erC "Twice" (by decide +kernel)
  refine rm_mk T.bState (fun _ _ _ _ _ _ us hl => match us, hl with | [_, _, _], _ => rfl) sc_bkState (fun vs H Q E h => ?_) (fun f cdv A outer s H vs Q E hr h => ?_)
  · obtain ⟨b, n, k, l, nm, st, ps, ts, ss, z, v, c, rfl, _⟩ := h
    rfl
  · obtain ⟨b, n, k, l, nm, st, ps, ts, ss, z, v, c, rfl, B, hz, hlen, hv, hd, hsz, qE, q⟩ := h
    have nd := sc_bkState.nd
    obtain ⟨dx, hb⟩ := B.ob
    refine ⟨_, pss_cons (ps_expr (pe_call G1 hr rfl g1 k1 b1 .nil passX (pa_cons (pv 1) pa_nil))) <|
      pss_cons (ps_if (pt_cmpR op_in_seq (pv 1) (pe_fld (pv 0) rfl) (by rfl)) (pss_one (ps_raise rfl (takes_of rfl rfl rfl rfl) (pmk_own PySem.F.excBase_ValueError eT.ex eT.g eT.kp (raises_own eT.sb eT.ty) rfl))) pss_nil) <|
      pss_cons (ps_expr (pe_call G2 hr rfl g2 k2 b2 .nil passX (pa_cons (pe_fld (pv 0) rfl) (pa_cons (pv 2) pa_nil)))) <|
      pss_cons (ps_set (i := 3) nd rfl (Or.inl rfl) (pe_call G3 hr rfl g3 k3 b3 .nil passL (pa_cons (pv 2) pa_nil))) <|
      pss_cons (ps_asg (pe_call G4 hr rfl g4 k4 b4 .nil passL (pa_cons (pe_fld (pv 0) rfl) (pa_cons (pv 3) pa_nil))) (pg_tup (by rfl) (pgs_cons (pg_name (i := 4) nd rfl (Or.inl rfl)) (pgs_cons (pg_name (i := 5) nd rfl (Or.inl rfl)) pgs_nil)))) <|
      pss_cons (ps_expr (pe_bm PySem.F.plainAttrs_list PySem.F.slot_list_append PySem.F.type_list_append mt_append (pe_fld (pv 0) rfl) (pa_cons (pv 1) pa_nil))) <|
      pss_cons (ps_expr (pe_bm PySem.F.plainAttrs_list PySem.F.slot_list_append PySem.F.type_list_append mt_append (pe_fld (pv 0) rfl) (pa_cons (pe_tup (pa_cons (pv 3) (pa_cons (pv 4) (pa_cons (pv 5) pa_nil)))) pa_nil))) <|
      pss_one (ps_ret (pv 4)), ?_⟩
    refine ⟨_, rfl, z, rfl, hz, fun hy => ?_, fun hno cls d x => qE .name (by unfold stateEr; rw [if_pos hno]) cls d H (Same.refl _) x⟩
    have hyn : ¬ isName z = false := by rw [hy]; exact Bool.noConfusion
    refine ⟨_, rfl, _, rfl, b, _, dx, _, _, rfl, hb, T.clB, T.bNa, bF_names _ _ _, nm, _, rfl, .inl (SqL.of B.hn), rfl, flat_strs _, _, rfl, ?_⟩
    rw [inV_str]
    by_cases hm : z ∈ ss.map Std.nm
    · refine ifT (decide_eq_true hm) ?_
      exact qE .twice (by unfold stateEr; rw [if_neg hyn, if_pos hm]) _ _ H (Same.refl _) ⟨rfl, rfl⟩
    refine ifF (decide_eq_false hm) ?_
    refine ⟨_, rfl, b, _, dx, _, _, rfl, hb, T.clB, T.bHe, bF_held _ _ _, _, rfl, n, k, l, ps, ts, _, v, c, rfl, B.net, hv, hd, hsz, fun hno H1 s1 => ?_, fun y hy' => qE (.place y) (by unfold stateEr; rw [if_neg hyn, if_neg hm, hy']; rfl)⟩
    obtain ⟨ws, so, pap, ew, lw, hF, q⟩ := q (by unfold stateEr; rw [if_neg hyn, if_neg hm, hno]; rfl)
    -- held
    obtain ⟨pc, rfl, hc⟩ := dp_strs (ew ▸ Dp.same s1 _ _ hv)
    refine ⟨_, rfl, pc, ws, rfl, hc, lw, fun hl H2 nhl s2 hhl => ?_⟩
    have B2 := B.same (s1.trans s2)
    obtain ⟨dx2, hb2⟩ := B2.ob
    -- found
    refine ⟨_, rfl, b, _, dx2, _, _, rfl, hb2, T.clB, T.bHe, bF_held _ _ _, _, rfl, n, k, l, ps, ts, _, .ref hl, c, _, rfl, B2.net, by rw [ew]; exact .tup (SqT.of hhl) (DpAll.strs ws), hF, fun r H3 s3 hr3 => ?_⟩
    have B3 := B2.same s3
    have hr4 := hr3 [k, l, nm, st] B2.known
    obtain ⟨p, xs, rfl, hs, ha⟩ := dp_tup hr4
    obtain ⟨x1, r1, rfl, h1, ha⟩ := dp_cons ha
    obtain ⟨x2, r2, rfl, h2, ha⟩ := dp_cons ha
    obtain rfl := dp_nil ha
    obtain rfl := dp_bool h1
    have s03 : Same H H3 := s1.trans (s2.trans s3)
    have hhl3 := s3 _ _ hhl
    obtain ⟨⟨dx3, hb3⟩, ⟨⟨dn, hnn⟩, hk0, ⟨tvs, hl0, hta⟩, okp, okt⟩, hnm, ⟨svs, hst, hsd⟩, kl, kn, ks, ln, ls, ns⟩ := id B3
    refine ⟨p, _, rfl, Same.seqT hid_same hs, rfl, _, _, rfl, _, _, rfl, rfl, ?_⟩
    refine ⟨_, rfl, b, _, dx3, _, _, rfl, hb3, T.clB, T.bNa, bF_names _ _ _, .inl ⟨rfl, _, SqL.of hnm⟩, _, rfl, nm, _, _, rfl, rfl, hnm, (by rw [List.length_map, List.length_map]; exact small1000 hlen), ?_⟩
    have nbn : b ≠ nm := ne_of hb3 hnm (fun z => nomatch z)
    have nbs : b ≠ st := ne_of hb3 hst (fun z => nomatch z)
    refine ⟨_, rfl, b, _, dx3, _, _, rfl, by rw [upd_ne nbn]; exact hb3, T.clB, T.bSt, bF_stated _ _ _, .inl ⟨rfl, _, SqL.of (by rw [upd_ne ns.symm]; exact hst)⟩, _, rfl, _, rfl, _, rfl, (by show 3 ≤ sizeLine; decide), fun t ht => ?_⟩
    have ntn : t ≠ nm := (ne_of_none upd_same ht).symm
    have ht3 : H3 t = none := by
      rw [upd_ne ntn] at ht
      exact ht
    have nts : st ≠ t := ne_of_none hst ht3
    have lsv : svs.length = ss.length := by rw [hsd.length, List.length_map]
    refine ⟨st, _, _, rfl, rfl, by rw [upd_ne nts, upd_ne ns.symm]; exact hst, by rw [lsv]; exact small1000 hlen, ?_⟩
    refine ⟨_, rfl, ?_⟩
    have sb : SameBut [nm, st] H3 (upd (upd (upd H3 nm (.lst ((ss.map Std.nm).map V.str ++ [.str z]))) t (.tup [.ref hl, .bl so, x2])) st (.lst (svs ++ [.ref t]))) := fun x o e hx => by
      have h1 : x ≠ nm := fun z => hx (by simp [z])
      have h2 : x ≠ st := fun z => hx (by simp [z])
      rw [upd_ne h2, upd_ne (ne_of_none e ht3), upd_ne h1]
      exact e
    have sb4 : SameBut [k, l, nm, st] H3 (upd (upd (upd H3 nm (.lst ((ss.map Std.nm).map V.str ++ [.str z]))) t (.tup [.ref hl, .bl so, x2])) st (.lst (svs ++ [.ref t]))) := sb.mono fun x hx => by
      simp only [List.mem_cons, List.not_mem_nil, or_false] at hx ⊢
      exact .inr (.inr hx)
    have nk := known_not B3.known ht3
    have nh : hl ∉ [k, l, nm, st] := known_not (B.same s1).known nhl
    refine q _ (SameBut.trans s03.but sb) ⟨⟨dx3, sb _ _ hb3 (by simp [nbn, nbs])⟩, ⟨⟨dn, sb _ _ hnn ?_⟩, sb _ _ hk0 (by simp [kn, ks]), ⟨tvs, sb _ _ hl0 (by simp [ln, ls]), DpAll.same sb4.hid _ _ hta⟩, okp, okt⟩, ?_, ⟨svs ++ [.ref t], upd_same, ?_⟩, kl, kn, ks, ln, ls, ns⟩
    · simpa using And.intro (ne_of hnn hnm (fun z => nomatch z)) (ne_of hnn hst (fun z => nomatch z))
    · rw [upd_ne ns, upd_ne ntn.symm, upd_same, List.map_append, List.map_append]
      rfl
    · rw [List.map_append]
      refine (DpAll.same sb4.hid _ _ hsd).append (.cons (.tup (xs := [.ref hl, .bl so, x2]) (SqT.of ?_) (.cons ?_ (.cons (.bl so) (.cons ?_ .nil)))) .nil)
      · rw [hid_of nk, upd_ne nts.symm, upd_same]
      · rw [ew]
        refine .tup (SqT.of ?_) (DpAll.strs ws)
        rw [hid_of nh]
        exact sb _ _ hhl3 (fun h => nh (by simp only [List.mem_cons, List.not_mem_nil, or_false] at h ⊢; exact .inr (.inr h)))
      · exact Dp.same sb4.hid _ _ h2
end
end Nc
end

section
set_option maxHeartbeats 4000000
namespace Nc
open PySem PySem.Spec PyProof.Rows L2
/-! _law_asked, _law_class: what is asked is refused -/
def vD : V → PyData
  | .str z => .str z
  | .int i => .int i
  | .bl b => .bool b
  | _ => .none
def vFlat : V → Bool
  | .str _ => true
  | .int _ => true
  | .bl _ => true
  | _ => false
theorem dp_flats {K : PySem.W.Frag} {H : Hp} : ∀ {l xs : List V}, l.all vFlat = true → DpAll K H xs (l.map vD) → xs = l
  | [], _, _, h => dp_nil h
  | x :: l, _, f, h => by
    obtain ⟨y, r, rfl, h1, h2⟩ := dp_cons h
    rw [List.all_cons, Bool.and_eq_true] at f
    rw [dp_flats f.2 h2]
    cases x with
    | str z =>
      rw [dp_str h1]
    | int i =>
      cases h1
      rfl
    | bl b => rw [dp_bool h1]
    | _ => cases f.1
theorem dp_flat {K : PySem.W.Frag} {H : Hp} {v : V} {l : List V} (f : l.all vFlat = true) (h : Dp K H v (.tuple (l.map vD))) : ∃ p, v = .ref p ∧ SqT K H p l := by
  obtain ⟨p, xs, e, hs, ha⟩ := dp_tup h
  rw [dp_flats f ha] at hs
  exact ⟨p, e, hs⟩
/-- what is asked of a book -/
inductive Deed where
  | place (z : Str) | tie (z a b : Str) (w c : Int) | cut (z : Str) | alter (z : Str) (w c : Int) | state (z : Str) (c : Cl) | forget (z : Str) | claim (z : Str) | verdict (z : Str) | paper (z : Str)
def Deed.ds : Deed → List PyData
  | .place z => [.str "place", .str z]
  | .tie z a b w c => [.str "tie", .str z, .str a, .str b, .int w, .int c]
  | .cut z => [.str "cut", .str z]
  | .alter z w c => [.str "alter", .str z, .int w, .int c]
  | .state z c => [.str "state", .str z, c.d]
  | .forget z => [.str "forget", .str z]
  | .claim z => [.str "claim", .str z]
  | .verdict z => [.str "verdict", .str z]
  | .paper z => [.str "paper", .str z]
/-- its texts are no longer than a line -/
def Deed.fit : Deed → Prop
  | .place z => z.length ≤ sizeLine
  | .tie z a b _ _ => ∀ u ∈ [z, a, b], u.length ≤ sizeLine
  | .state z c => z.length ≤ sizeLine ∧ c.deep < 4 ∧ c.sz ≤ 1000
  | _ => True
def Deed.er (ps : List Str) (ts : List Tie) (names : List Str) : Deed → Option Er
  | .place z => placeEr ps z
  | .tie z a b w _ => tieEr ps ts z a b w
  | .cut z => if named ts z = none then some .tie else none
  | .alter z w _ => if w < 1 then some (alterEr ts z) else none
  | .state z c => stateEr ps names z c
  | .forget z => if z ∈ names then none else some .claim
  | .claim z => if z ∈ names then none else some .claim
  | .verdict z => if z ∈ names then none else some .claim
  | .paper z => if z ∈ names then none else some .claim
/-- how large a book may be -/
def Small (ps : List Str) (ts : List Tie) (ss : List Std) : Prop := ps.length ≤ 1000 ∧ ts.length ≤ 1000 ∧ ss.length ≤ 1000
def spAsked (K : PySem.W.Frag) : Sp := fun vs H _ E => ∃ (b n k l nm st : Addr) (ps : List Str) (ts : List Tie) (ss : List Std) (v : V) (d : Deed) (e : Er), vs = [.ref b, v] ∧ BookIs K H b n k l nm st ps ts ss ∧ Small ps ts ss ∧
  Dp K H v (.tuple d.ds) ∧ d.fit ∧ d.er ps ts (ss.map Std.nm) = some e ∧ Refuses K e H E
def spClass (K : PySem.W.Frag) : Sp := fun vs H Q _ => ∃ (b n k l nm st : Addr) (ps : List Str) (ts : List Tie) (ss : List Std) (v : V) (d : Deed) (e : Er), vs = [.ref b, v] ∧ BookIs K H b n k l nm st ps ts ss ∧ Small ps ts ss ∧
  Dp K H v (.tuple d.ds) ∧ d.fit ∧ d.er ps ts (ss.map Std.nm) = some e ∧ e.word.length ≤ sizeLine ∧ NewStrs H [e.word] Q
theorem claim_er {names : List Str} {z : Str} {e : Er} (h : (if z ∈ names then none else some Er.claim) = some e) : z ∉ names ∧ e = .claim := by
  by_cases m : z ∈ names
  · rw [if_pos m] at h
    cases h
  · rw [if_neg m] at h
    exact ⟨m, (Option.some.inj h).symm⟩
section
variable {P : Program} {w : World} {K : PySem.W.Frag} {mg : Str → Option Value} {base : Heap}
theorem sc_asked : FnScope ["_law_book", "_law_deed", "_law_word"] ["_law_book", "_law_deed"] (defScope sAsked) := ⟨rfl, rfl, rfl, by decide +kernel, rfl, by decide +kernel, by decide +kernel⟩
theorem rd_asked (T : Txt K mg) : Rd P w K mg base 10 "_law_asked" ["_law_book", "_law_deed"] (spAsked K) := by
  obtain ⟨f1, fd1, G1, m1, b1⟩ := ((rm_bkPlace (P := P) (w := w) (base := base) T).mono (show 6 ≤ 9 by decide)).ex
  obtain ⟨f2, fd2, G2, m2, b2⟩ := ((rm_bkTie (P := P) (w := w) (base := base) T).mono (show 6 ≤ 9 by decide)).ex
  obtain ⟨f3, fd3, G3, m3, b3⟩ := ((rm_bkCut (P := P) (w := w) (base := base) T).mono (show 4 ≤ 9 by decide)).ex
  obtain ⟨f4, fd4, G4, m4, b4⟩ := ((rm_bkAlter (P := P) (w := w) (base := base) T).mono (show 4 ≤ 9 by decide)).ex
  obtain ⟨f5, fd5, G5, m5, b5⟩ := (rm_bkState (P := P) (w := w) (base := base) T).ex
  obtain ⟨f6, fd6, G6, m6, b6⟩ := ((rm_bkForget (P := P) (w := w) (base := base) T).mono (show 2 ≤ 9 by decide)).ex
  obtain ⟨f7, fd7, G7, m7, b7⟩ := ((rm_bkClaim (P := P) (w := w) (base := base) T).mono (show 3 ≤ 9 by decide)).ex
  obtain ⟨f8, fd8, G8, m8, b8⟩ := ((rm_bkVerdict (P := P) (w := w) (base := base) T).mono (show 3 ≤ 9 by decide)).ex
  obtain ⟨f9, fd9, G9, m9, b9⟩ := ((rm_bkPaper (P := P) (w := w) (base := base) T).mono (show 4 ≤ 9 by decide)).ex
  refine rd_mk T.asked (fun _ _ _ _ _ _ us hl => match us, hl with | [_, _], _ => rfl) sc_asked (fun vs H Q E h => ?_) (fun f cdv A outer s H vs Q E hr h => ?_)
  · obtain ⟨b, n, k, l, nm, st, ps, ts, ss, v, d, e, rfl, _⟩ := h
    rfl
  · obtain ⟨b, n, k, l, nm, st, ps, ts, ss, v, d, e, rfl, B, ⟨z1, z2, z3⟩, hv, hfit, her, qE⟩ := h
    have nd := sc_asked.nd
    obtain ⟨dx, hb⟩ := B.ob
    refine ⟨_, pss_cons (ps_set (i := 2) nd rfl (Or.inl rfl) (pe_ix ix_tup (pv 1) pe_int (fun _ _ => rfl))) <|
      pss_cons (ps_if (pt_cmpR op_eq (pv 2) pe_str (nomark _)) (pss_one (ps_ret (pe_meth (pv 0) T.clB m1 G1 hr b1 .nil passX (pa_cons (pe_ix ix_tup (pv 1) pe_int (fun _ _ => rfl)) pa_nil)))) pss_nil) <|
      pss_cons (ps_if (pt_cmpR op_eq (pv 2) pe_str (nomark _)) (pss_one (ps_ret (pe_meth (pv 0) T.clB m2 G2 hr b2 .nil passX (pa_cons (pe_ix ix_tup (pv 1) pe_int (fun _ _ => rfl)) (pa_cons (pe_ix ix_tup (pv 1) pe_int (fun _ _ => rfl)) (pa_cons (pe_ix ix_tup (pv 1) pe_int (fun _ _ => rfl)) (pa_cons (pe_ix ix_tup (pv 1) pe_int (fun _ _ => rfl)) (pa_cons (pe_ix ix_tup (pv 1) pe_int (fun _ _ => rfl)) pa_nil)))))))) pss_nil) <|
      pss_cons (ps_if (pt_cmpR op_eq (pv 2) pe_str (nomark _)) (pss_one (ps_ret (pe_meth (pv 0) T.clB m3 G3 hr b3 .nil passX (pa_cons (pe_ix ix_tup (pv 1) pe_int (fun _ _ => rfl)) pa_nil)))) pss_nil) <|
      pss_cons (ps_if (pt_cmpR op_eq (pv 2) pe_str (nomark _)) (pss_one (ps_ret (pe_meth (pv 0) T.clB m4 G4 hr b4 .nil passX (pa_cons (pe_ix ix_tup (pv 1) pe_int (fun _ _ => rfl)) (pa_cons (pe_ix ix_tup (pv 1) pe_int (fun _ _ => rfl)) (pa_cons (pe_ix ix_tup (pv 1) pe_int (fun _ _ => rfl)) pa_nil)))))) pss_nil) <|
      pss_cons (ps_if (pt_cmpR op_eq (pv 2) pe_str (nomark _)) (pss_one (ps_ret (pe_meth (pv 0) T.clB m5 G5 hr b5 .nil passX (pa_cons (pe_ix ix_tup (pv 1) pe_int (fun _ _ => rfl)) (pa_cons (pe_ix ix_tup (pv 1) pe_int (fun _ _ => rfl)) pa_nil))))) pss_nil) <|
      pss_cons (ps_if (pt_cmpR op_eq (pv 2) pe_str (nomark _)) (pss_one (ps_ret (pe_meth (pv 0) T.clB m6 G6 hr b6 .nil passX (pa_cons (pe_ix ix_tup (pv 1) pe_int (fun _ _ => rfl)) pa_nil)))) pss_nil) <|
      pss_cons (ps_if (pt_cmpR op_eq (pv 2) pe_str (nomark _)) (pss_one (ps_ret (pe_meth (pv 0) T.clB m7 G7 hr b7 .nil passX (pa_cons (pe_ix ix_tup (pv 1) pe_int (fun _ _ => rfl)) pa_nil)))) pss_nil) <|
      pss_cons (ps_if (pt_cmpR op_eq (pv 2) pe_str (nomark _)) (pss_one (ps_ret (pe_meth (pv 0) T.clB m8 G8 hr b8 .nil passX (pa_cons (pe_ix ix_tup (pv 1) pe_int (fun _ _ => rfl)) pa_nil)))) pss_nil) <|
      pss_one (ps_ret (pe_meth (pv 0) T.clB m9 G9 hr b9 .nil passX (pa_cons (pe_ix ix_tup (pv 1) pe_int (fun _ _ => rfl)) pa_nil))), ?_⟩
    have nb : ∀ {m : Str}, ¬ m = "held_net" → ¬ m = "names" → ¬ m = "stated" → (bF n nm st).lookup m = none := fun h1 h2 h3 => bF_no _ _ _ h1 h2 h3
    cases d with
    | place z =>
      obtain ⟨p, rfl, hs⟩ := dp_flat (l := [.str "place", .str z]) rfl hv
      have her : placeEr ps z = some e := her
      refine ⟨_, rfl, p, _, 0, _, rfl, rfl, hs, at_of (j := 0) rfl rfl, _, rfl, rfl, _, rfl, ifT (by decide +kernel) ?_⟩
      refine ⟨_, rfl, b, dx, _, rfl, hb, nb (by decide +kernel) (by decide +kernel) (by decide +kernel), _, rfl, p, _, 1, _, rfl, rfl, hs, at_of (j := 1) rfl rfl, b, n, k, l, nm, st, ps, ts, ss, z, rfl, B, hfit, z1, fun e' he => ?_, fun he => ?_⟩
      · rw [her] at he
        cases he
        exact qE
      · rw [her] at he
        cases he
    | tie z x y wd c =>
      obtain ⟨p, rfl, hs⟩ := dp_flat (l := [.str "tie", .str z, .str x, .str y, .int wd, .int c]) rfl hv
      have her : tieEr ps ts z x y wd = some e := her
      refine ⟨_, rfl, p, _, 0, _, rfl, rfl, hs, at_of (j := 0) rfl rfl, _, rfl, rfl, _, rfl, ifF (by decide +kernel) ?_⟩
      refine ⟨_, rfl, rfl, _, rfl, ifT (by decide +kernel) ?_⟩
      refine ⟨_, rfl, b, dx, _, rfl, hb, nb (by decide +kernel) (by decide +kernel) (by decide +kernel), _, rfl, p, _, 1, _, rfl, rfl, hs, at_of (j := 1) rfl rfl, _, rfl, p, _, 2, _, rfl, rfl, hs, at_of (j := 2) rfl rfl, _, rfl, p, _, 3, _, rfl, rfl, hs, at_of (j := 3) rfl rfl,
        _, rfl, p, _, 4, _, rfl, rfl, hs, at_of (j := 4) rfl rfl, _, rfl, p, _, 5, _, rfl, rfl, hs, at_of (j := 5) rfl rfl, b, n, k, l, nm, st, ps, ts, ss, z, x, y, wd, c, rfl, B, hfit, z1, z2, fun e' he => ?_, fun he => ?_⟩
      · rw [her] at he
        cases he
        exact qE
      · rw [her] at he
        cases he
    | cut z =>
      obtain ⟨p, rfl, hs⟩ := dp_flat (l := [.str "cut", .str z]) rfl hv
      have her : (if named ts z = none then some Er.tie else none) = some e := her
      by_cases hn : named ts z = none
      case neg =>
        rw [if_neg hn] at her
        cases her
      rw [if_pos hn] at her
      cases her
      refine ⟨_, rfl, p, _, 0, _, rfl, rfl, hs, at_of (j := 0) rfl rfl, _, rfl, rfl, _, rfl, ifF (by decide +kernel) ?_⟩
      refine ⟨_, rfl, rfl, _, rfl, ifF (by decide +kernel) ⟨_, rfl, rfl, _, rfl, ifT (by decide +kernel) ?_⟩⟩
      exact ⟨_, rfl, b, dx, _, rfl, hb, nb (by decide +kernel) (by decide +kernel) (by decide +kernel), _, rfl, p, _, 1, _, rfl, rfl, hs, at_of (j := 1) rfl rfl, b, n, k, l, nm, st, ps, ts, ss, z, rfl, B, hn, qE⟩
    | alter z wd c =>
      obtain ⟨p, rfl, hs⟩ := dp_flat (l := [.str "alter", .str z, .int wd, .int c]) rfl hv
      have her : (if wd < 1 then some (alterEr ts z) else none) = some e := her
      by_cases hn : wd < 1
      case neg =>
        rw [if_neg hn] at her
        cases her
      rw [if_pos hn] at her
      cases her
      refine ⟨_, rfl, p, _, 0, _, rfl, rfl, hs, at_of (j := 0) rfl rfl, _, rfl, rfl, _, rfl, ifF (by decide +kernel) ?_⟩
      refine ⟨_, rfl, rfl, _, rfl, ifF (by decide +kernel) ⟨_, rfl, rfl, _, rfl, ifF (by decide +kernel) ⟨_, rfl, rfl, _, rfl, ifT (by decide +kernel) ?_⟩⟩⟩
      exact ⟨_, rfl, b, dx, _, rfl, hb, nb (by decide +kernel) (by decide +kernel) (by decide +kernel), _, rfl, p, _, 1, _, rfl, rfl, hs, at_of (j := 1) rfl rfl, _, rfl, p, _, 2, _, rfl, rfl, hs, at_of (j := 2) rfl rfl, _, rfl, p, _, 3, _, rfl, rfl, hs, at_of (j := 3) rfl rfl, b, n, k, l, nm, st, ps, ts, ss, z, wd, c, rfl, B, hn, qE⟩
    | state z c =>
      obtain ⟨p, xs, rfl, hs, ha⟩ := dp_tup hv
      obtain ⟨x1, r1, rfl, h1, ha⟩ := dp_cons ha
      obtain ⟨x2, r2, rfl, h2, ha⟩ := dp_cons ha
      obtain ⟨x3, r3, rfl, h3, ha⟩ := dp_cons ha
      obtain rfl := dp_nil ha
      obtain rfl := dp_str h1
      obtain rfl := dp_str h2
      have her : stateEr ps (ss.map Std.nm) z c = some e := her
      obtain ⟨hz, hd, hsz⟩ : z.length ≤ sizeLine ∧ c.deep < 4 ∧ c.sz ≤ 1000 := hfit
      refine ⟨_, rfl, p, _, 0, _, rfl, rfl, hs, at_of (j := 0) rfl rfl, _, rfl, rfl, _, rfl, ifF (by decide +kernel) ?_⟩
      refine ⟨_, rfl, rfl, _, rfl, ifF (by decide +kernel) ⟨_, rfl, rfl, _, rfl, ifF (by decide +kernel) ⟨_, rfl, rfl, _, rfl, ifF (by decide +kernel) ⟨_, rfl, rfl, _, rfl, ifT (by decide +kernel) ?_⟩⟩⟩⟩
      refine ⟨_, rfl, b, dx, _, rfl, hb, nb (by decide +kernel) (by decide +kernel) (by decide +kernel), _, rfl, p, _, 1, _, rfl, rfl, hs, at_of (j := 1) rfl rfl, _, rfl, p, _, 2, _, rfl, rfl, hs, at_of (j := 2) rfl rfl, b, n, k, l, nm, st, ps, ts, ss, z, x3, c, rfl, B, hz, z3, h3, hd, hsz, fun e' he => ?_, fun he => ?_⟩
      · rw [her] at he
        cases he
        exact qE
      · rw [her] at he
        cases he
    | forget z =>
      obtain ⟨p, rfl, hs⟩ := dp_flat (l := [.str "forget", .str z]) rfl hv
      obtain ⟨hn, rfl⟩ := claim_er her
      refine ⟨_, rfl, p, _, 0, _, rfl, rfl, hs, at_of (j := 0) rfl rfl, _, rfl, rfl, _, rfl, ifF (by decide +kernel) ?_⟩
      refine ⟨_, rfl, rfl, _, rfl, ifF (by decide +kernel) ⟨_, rfl, rfl, _, rfl, ifF (by decide +kernel) ⟨_, rfl, rfl, _, rfl, ifF (by decide +kernel) ⟨_, rfl, rfl, _, rfl, ifF (by decide +kernel) ⟨_, rfl, rfl, _, rfl, ifT (by decide +kernel) ?_⟩⟩⟩⟩⟩
      exact ⟨_, rfl, b, dx, _, rfl, hb, nb (by decide +kernel) (by decide +kernel) (by decide +kernel), _, rfl, p, _, 1, _, rfl, rfl, hs, at_of (j := 1) rfl rfl, b, n, k, l, nm, st, ps, ts, ss, z, rfl, B, z3, fun _ => qE, fun j hj => absurd (List.mem_of_getElem? hj.1) hn⟩
    | claim z =>
      obtain ⟨p, rfl, hs⟩ := dp_flat (l := [.str "claim", .str z]) rfl hv
      obtain ⟨hn, rfl⟩ := claim_er her
      refine ⟨_, rfl, p, _, 0, _, rfl, rfl, hs, at_of (j := 0) rfl rfl, _, rfl, rfl, _, rfl, ifF (by decide +kernel) ?_⟩
      refine ⟨_, rfl, rfl, _, rfl, ifF (by decide +kernel) ⟨_, rfl, rfl, _, rfl, ifF (by decide +kernel) ⟨_, rfl, rfl, _, rfl, ifF (by decide +kernel) ⟨_, rfl, rfl, _, rfl, ifF (by decide +kernel) ⟨_, rfl, rfl, _, rfl, ifF (by decide +kernel) ⟨_, rfl, rfl, _, rfl, ifT (by decide +kernel) ?_⟩⟩⟩⟩⟩⟩
      exact ⟨_, rfl, b, dx, _, rfl, hb, nb (by decide +kernel) (by decide +kernel) (by decide +kernel), _, rfl, p, _, 1, _, rfl, rfl, hs, at_of (j := 1) rfl rfl, b, n, k, l, nm, st, ps, ts, ss, z, rfl, B, fun _ => qE, fun j _ hj _ => absurd (List.mem_of_getElem? hj.1) hn⟩
    | verdict z =>
      obtain ⟨p, rfl, hs⟩ := dp_flat (l := [.str "verdict", .str z]) rfl hv
      obtain ⟨hn, rfl⟩ := claim_er her
      refine ⟨_, rfl, p, _, 0, _, rfl, rfl, hs, at_of (j := 0) rfl rfl, _, rfl, rfl, _, rfl, ifF (by decide +kernel) ?_⟩
      refine ⟨_, rfl, rfl, _, rfl, ifF (by decide +kernel) ⟨_, rfl, rfl, _, rfl, ifF (by decide +kernel) ⟨_, rfl, rfl, _, rfl, ifF (by decide +kernel) ⟨_, rfl, rfl, _, rfl, ifF (by decide +kernel) ⟨_, rfl, rfl, _, rfl, ifF (by decide +kernel) ⟨_, rfl, rfl, _, rfl, ifF (by decide +kernel) ⟨_, rfl, rfl, _, rfl, ifT (by decide +kernel) ?_⟩⟩⟩⟩⟩⟩⟩
      exact ⟨_, rfl, b, dx, _, rfl, hb, nb (by decide +kernel) (by decide +kernel) (by decide +kernel), _, rfl, p, _, 1, _, rfl, rfl, hs, at_of (j := 1) rfl rfl, b, n, k, l, nm, st, ps, ts, ss, z, rfl, B, fun _ => qE, fun j _ hj _ => absurd (List.mem_of_getElem? hj.1) hn⟩
    | paper z =>
      obtain ⟨p, rfl, hs⟩ := dp_flat (l := [.str "paper", .str z]) rfl hv
      obtain ⟨hn, rfl⟩ := claim_er her
      refine ⟨_, rfl, p, _, 0, _, rfl, rfl, hs, at_of (j := 0) rfl rfl, _, rfl, rfl, _, rfl, ifF (by decide +kernel) ?_⟩
      refine ⟨_, rfl, rfl, _, rfl, ifF (by decide +kernel) ⟨_, rfl, rfl, _, rfl, ifF (by decide +kernel) ⟨_, rfl, rfl, _, rfl, ifF (by decide +kernel) ⟨_, rfl, rfl, _, rfl, ifF (by decide +kernel) ⟨_, rfl, rfl, _, rfl, ifF (by decide +kernel) ⟨_, rfl, rfl, _, rfl, ifF (by decide +kernel) ⟨_, rfl, rfl, _, rfl, ifF (by decide +kernel) ?_⟩⟩⟩⟩⟩⟩⟩
      exact ⟨_, rfl, b, dx, _, rfl, hb, nb (by decide +kernel) (by decide +kernel) (by decide +kernel), _, rfl, p, _, 1, _, rfl, rfl, hs, at_of (j := 1) rfl rfl, b, n, k, l, nm, st, ps, ts, ss, z, H, [], rfl, B, Same.refl _, (fun _ h => nomatch h), fun _ => qE, fun j _ hj _ => absurd (List.mem_of_getElem? hj.1) hn⟩
end
end Nc
end

section
set_option maxHeartbeats 4000000
namespace Nc
open PySem PySem.Spec PyProof.Rows L2
/-! _law_class -/
/-- the error kept at a, the words so far at r -/
structure Caught (K : PySem.W.Frag) (H0 : Hp) (e : Er) (a : Addr) (d : Option Addr) (r : Addr) (l : List Str) (H : Hp) : Prop where
  at_ : H a = some (exT a (gA K e.cls) d)
  dict : DictAt d H
  fld : ∀ z, e = .place z → ∃ dd, d = some dd ∧ H dd = some (.xd [(("name" : Str), .str z)])
  words : H r = some (.lst (l.map V.str))
  same : Same H0 H
  new : H0 r = none
theorem Caught.add {K : PySem.W.Frag} {H0 H : Hp} {e : Er} {a : Addr} {d : Option Addr} {r : Addr} {l : List Str} (C : Caught K H0 e a d r l H) (w : Str) : Caught K H0 e a d r (l ++ [w]) (upd H r (.lst (l.map V.str ++ [.str w]))) := by
  obtain ⟨h1, h2, h3, h4, h5, h6⟩ := C
  have nar : a ≠ r := ne_of h1 h4 (fun z => nomatch z)
  have nd : ∀ dd fs, H dd = some (.xd fs) → dd ≠ r := fun dd fs q => ne_of q h4 (fun z => nomatch z)
  refine ⟨by rw [upd_ne nar]; exact h1, ?_, fun z hz => ?_, by rw [upd_same, List.map_append]; rfl, fun b o q => ?_, h6⟩
  · rcases h2 with h2 | ⟨dd, fs, h2, h3⟩
    · exact .inl h2
    · exact .inr ⟨dd, fs, h2, by rw [upd_ne (nd _ _ h3)]; exact h3⟩
  · obtain ⟨dd, h1, h2⟩ := h3 z hz
    exact ⟨dd, h1, by rw [upd_ne (nd _ _ h2)]; exact h2⟩
  · rw [upd_ne (ne_of_none q h6)]
    exact h5 _ _ q
theorem Er.mem (e : Er) : e.cls ∈ allErs := by
  cases e with
  | place s =>
    show ("NoPlace" : Str) ∈ allErs
    decide +kernel
  | _ => decide +kernel
theorem place_len {z : Str} (h : (Er.place z).word.length ≤ sizeLine) : ("place " : Str).length + z.length ≤ sizeLine := by
  have e : (Er.place z).word.length = ("place " : Str).length + z.length := Array.size_append ..
  rw [← e]
  exact h
section
variable {P : Program} {w : World} {K : PySem.W.Frag} {mg : Str → Option Value} {base : Heap}
theorem sc_class : FnScope ["_law_book", "_law_deed", "_law_caught", "e", "_law_names"] ["_law_book", "_law_deed"] (defScope sClass) := ⟨rfl, rfl, rfl, by decide +kernel, rfl, by decide +kernel, by decide +kernel⟩
theorem rd_class (T : Txt K mg) : Rd P w K mg base 11 "_law_class" ["_law_book", "_law_deed"] (spClass K) := by
  obtain ⟨f1, fd1, G1, g1, k1, b1⟩ := (rd_asked (P := P) (w := w) (base := base) T).ex
  have gE : ∀ x ∈ askedErs, mg x = some (.ref (gA K x)) := T.gEr
  refine rd_mk T.lclass (fun _ _ _ _ _ _ us hl => match us, hl with | [_, _], _ => rfl) sc_class (fun vs H Q E h => ?_) (fun f cdv A outer s H vs Q E hr h => ?_)
  · obtain ⟨b, n, k, l, nm, st, ps, ts, ss, v, d, e, rfl, _⟩ := h
    rfl
  · obtain ⟨b, n, k, l, nm, st, ps, ts, ss, v, d, e, rfl, B, hsm, hv, hfit, her, hw, q⟩ := h
    have nd := sc_class.nd
    have X := T.erX e.cls e.mem
    refine ⟨_, pss_cons (ps_set (i := 2) nd rfl (Or.inl rfl) pe_non) <|
      pss_cons (ps_try_keep (i := 3) (tb := fun W => tDrop (tCallS (spAsked K) (WE W) (tCons (tVar 0) (tCons (tVar 1) tNil)))) (ts := tAsg (tVar 3) (gName 2)) rfl rfl nd rfl rfl rfl T.gCt (by decide +kernel)
        (fun W pn xe tk _ => pss_one (ps_expr (by exact (pe_callS G1 hr rfl g1 k1 b1 (fun σ => passAt tk σ) (by exact (pa_cons (pv 0) (pa_cons (pv 1) pa_nil)))))))
        (fun a pn => pss_one (ps_set (i := 2) nd rfl (Or.inl rfl) (by exact pv 3)))) <|
      pss_cons (ps_set (i := 4) nd rfl (Or.inl rfl) (pe_lst pa_nil)) <|
      pss_cons (ps_if (pt_val (pe_callB call_isK (by rfl) T.isi (by decide +kernel) (pa_cons (pv 2) (pa_cons (pe_gR (gE _ (by decide +kernel))) pa_nil)))) (pss_one (ps_expr (pe_bm PySem.F.plainAttrs_list PySem.F.slot_list_append PySem.F.type_list_append mt_append (pv 4) (pa_cons pe_str pa_nil)))) pss_nil) <|
      pss_cons (ps_if (pt_val (pe_callB call_isK (by rfl) T.isi (by decide +kernel) (pa_cons (pv 2) (pa_cons (pe_gR (gE _ (by decide +kernel))) pa_nil)))) (pss_one (ps_expr (pe_bm PySem.F.plainAttrs_list PySem.F.slot_list_append PySem.F.type_list_append mt_append (pv 4) (pa_cons pe_str pa_nil)))) pss_nil) <|
      pss_cons (ps_if (pt_val (pe_callB call_isK (by rfl) T.isi (by decide +kernel) (pa_cons (pv 2) (pa_cons (pe_gR (gE _ (by decide +kernel))) pa_nil)))) (pss_one (ps_expr (pe_bm PySem.F.plainAttrs_list PySem.F.slot_list_append PySem.F.type_list_append mt_append (pv 4) (pa_cons pe_str pa_nil)))) pss_nil) <|
      pss_cons (ps_if (pt_val (pe_callB call_isK (by rfl) T.isi (by decide +kernel) (pa_cons (pv 2) (pa_cons (pe_gR (gE _ (by decide +kernel))) pa_nil)))) (pss_one (ps_expr (pe_bm PySem.F.plainAttrs_list PySem.F.slot_list_append PySem.F.type_list_append mt_append (pv 4) (pa_cons pe_str pa_nil)))) pss_nil) <|
      pss_cons (ps_if (pt_val (pe_callB call_isK (by rfl) T.isi (by decide +kernel) (pa_cons (pv 2) (pa_cons (pe_gR (gE _ (by decide +kernel))) pa_nil)))) (pss_one (ps_expr (pe_bm PySem.F.plainAttrs_list PySem.F.slot_list_append PySem.F.type_list_append mt_append (pv 4) (pa_cons pe_str pa_nil)))) pss_nil) <|
      pss_cons (ps_if (pt_val (pe_callB call_isK (by rfl) T.isi (by decide +kernel) (pa_cons (pv 2) (pa_cons (pe_gR (gE _ (by decide +kernel))) pa_nil)))) (pss_one (ps_expr (pe_bm PySem.F.plainAttrs_list PySem.F.slot_list_append PySem.F.type_list_append mt_append (pv 4) (pa_cons pe_str pa_nil)))) pss_nil) <|
      pss_cons (ps_if (pt_val (pe_callB call_isK (by rfl) T.isi (by decide +kernel) (pa_cons (pv 2) (pa_cons (pe_gR (gE _ (by decide +kernel))) pa_nil)))) (pss_one (ps_expr (pe_bm PySem.F.plainAttrs_list PySem.F.slot_list_append PySem.F.type_list_append mt_append (pv 4) (pa_cons pe_str pa_nil)))) pss_nil) <|
      pss_cons (ps_if (pt_val (pe_callB call_isK (by rfl) T.isi (by decide +kernel) (pa_cons (pv 2) (pa_cons (pe_gR (gE _ (by decide +kernel))) pa_nil)))) (pss_one (ps_expr (pe_bm PySem.F.plainAttrs_list PySem.F.slot_list_append PySem.F.type_list_append mt_append (pv 4) (pa_cons (pe_op op_add_str pe_str (pe_xk (pv 2))) pa_nil)))) pss_nil) <|
      pss_cons (ps_if (PW.pt (pw_or (pt_val (pe_callB call_isK (by rfl) T.isi (by decide +kernel) (pa_cons (pv 2) (pa_cons (pe_gR (gE _ (by decide +kernel))) pa_nil)))) (pw_or1 (pt_val (pe_callB call_isK (by rfl) T.isi (by decide +kernel) (pa_cons (pv 2) (pa_cons (pe_gR (gE _ (by decide +kernel))) pa_nil)))))))
        pss_never pss_nil) <|
      pss_cons (ps_if (PW.pt (pw_and (pt_cmpR op_notN (pv 2) pe_non (nomark _)) (pw_and1 (pt_not (pt_val (pe_callB call_isK (by rfl) T.isi (by decide +kernel) (pa_cons (pv 2) (pa_cons (pe_bltn (v := .ty "ValueError") (by rfl) T.ve boot_ValueError rfl) pa_nil))))))))
        pss_never pss_nil) <|
      pss_one (ps_ret (pv 4)), ?_⟩
    refine ⟨_, rfl, _, rfl, b, n, k, l, nm, st, ps, ts, ss, v, d, e, rfl, B, hsm, hv, hfit, her, fun cls de H1 s1 x => ?_⟩
    obtain ⟨rfl, hx⟩ : cls = .ref (gA K e.cls) ∧ _ := x
    refine ⟨gA K e.cls, rfl, X.ct, fun a ha => ?_⟩
    have s2 : Same H1 (upd H1 a (exT a (gA K e.cls) de)) := Same.new ha
    have h2 : upd H1 a (exT a (gA K e.cls) de) a = some (exT a (gA K e.cls) de) := upd_same
    have hde : DictAt de (upd H1 a (exT a (gA K e.cls) de)) := by
      cases e with
      | place z =>
        obtain ⟨dd, rfl, hdd⟩ : ∃ dd, de = some dd ∧ H1 dd = some (.xd [(("name" : Str), .str z)]) := hx
        exact .inr ⟨dd, _, rfl, s2 _ _ hdd⟩
      | _ => exact .inl hx
    have hfd : ∀ z, e = .place z → ∃ dd, de = some dd ∧ upd H1 a (exT a (gA K e.cls) de) dd = some (.xd [(("name" : Str), .str z)]) := fun z hz => by
      subst hz
      obtain ⟨dd, h1, hdd⟩ : ∃ dd, de = some dd ∧ H1 dd = some (.xd [(("name" : Str), .str z)]) := hx
      exact ⟨dd, h1, s2 _ _ hdd⟩
    generalize upd H1 a (exT a (gA K e.cls) de) = H2 at s2 h2 hde hfd ⊢
    refine ⟨_, rfl, ?_⟩
    refine ⟨(by show 0 ≤ sizeLine; decide), fun r hr2 => ?_⟩
    have C : Caught K H e a de r [] (upd H2 r (.lst [])) := by
      have s3 : Same H2 (upd H2 r (.lst [])) := Same.new hr2
      refine ⟨s3 _ _ h2, ?_, fun z hz => ?_, upd_same, s1.trans (s2.trans s3), s1.free (s2.free hr2)⟩
      · rcases hde with h | ⟨dd, fs, h, h'⟩
        · exact .inl h
        · exact .inr ⟨dd, fs, h, s3 _ _ h'⟩
      · obtain ⟨dd, h, h'⟩ := hfd z hz
        exact ⟨dd, h, s3 _ _ h'⟩
    generalize upd H2 r (.lst []) = H3 at C ⊢
    cases e with
    | name =>
      have X : ErX K "NoName" := X
      refine ⟨_, rfl, a, _, de, _, _, _, rfl, C.at_, C.dict, X.ca, .own _, X.is "NoName" (by decide +kernel), _, rfl, ifT (by decide +kernel) ⟨_, rfl, .inl ⟨rfl, _, SqL.of C.words⟩, r, _, _, rfl, rfl, C.words, (by show 0 < sizeLine; decide), ?_⟩⟩
      have C := C.add "name"
      generalize upd H3 r (.lst (([] : List Str).map V.str ++ [.str "name"])) = H3 at C ⊢
      refine ⟨_, rfl, a, _, de, _, _, _, rfl, C.at_, C.dict, X.ca, .own _, X.is "Twice" (by decide +kernel), _, rfl, ifF (by decide +kernel) ?_⟩
      refine ⟨_, rfl, a, _, de, _, _, _, rfl, C.at_, C.dict, X.ca, .own _, X.is "SamePlace" (by decide +kernel), _, rfl, ifF (by decide +kernel) ?_⟩
      refine ⟨_, rfl, a, _, de, _, _, _, rfl, C.at_, C.dict, X.ca, .own _, X.is "NoWidth" (by decide +kernel), _, rfl, ifF (by decide +kernel) ?_⟩
      refine ⟨_, rfl, a, _, de, _, _, _, rfl, C.at_, C.dict, X.ca, .own _, X.is "NoTie" (by decide +kernel), _, rfl, ifF (by decide +kernel) ?_⟩
      refine ⟨_, rfl, a, _, de, _, _, _, rfl, C.at_, C.dict, X.ca, .own _, X.is "TooMany" (by decide +kernel), _, rfl, ifF (by decide +kernel) ?_⟩
      refine ⟨_, rfl, a, _, de, _, _, _, rfl, C.at_, C.dict, X.ca, .own _, X.is "NoClaim" (by decide +kernel), _, rfl, ifF (by decide +kernel) ?_⟩
      refine ⟨_, rfl, a, _, de, _, _, _, rfl, C.at_, C.dict, X.ca, .own _, X.is "NoPlace" (by decide +kernel), _, rfl, ifF (by decide +kernel) ?_⟩
      refine ⟨_, rfl, a, _, de, _, _, _, rfl, C.at_, C.dict, X.ca, .own _, X.is "NoText" (by decide +kernel), _, rfl, ifF (by decide +kernel) ⟨_, rfl, a, _, de, _, _, _, rfl, C.at_, C.dict, X.ca, .own _, X.is "NoLine" (by decide +kernel), _, rfl, ifF (by decide +kernel) ?_⟩⟩
      refine ⟨_, rfl, rfl, _, rfl, ifT rfl ⟨_, rfl, a, _, de, _, _, _, rfl, C.at_, C.dict, X.ca, .ty _, X.ve, _, rfl, ifF rfl ?_⟩⟩
      exact ⟨_, rfl, q r H3 C.new C.same C.words⟩
    | twice =>
      have X : ErX K "Twice" := X
      refine ⟨_, rfl, a, _, de, _, _, _, rfl, C.at_, C.dict, X.ca, .own _, X.is "NoName" (by decide +kernel), _, rfl, ifF (by decide +kernel) ?_⟩
      refine ⟨_, rfl, a, _, de, _, _, _, rfl, C.at_, C.dict, X.ca, .own _, X.is "Twice" (by decide +kernel), _, rfl, ifT (by decide +kernel) ⟨_, rfl, .inl ⟨rfl, _, SqL.of C.words⟩, r, _, _, rfl, rfl, C.words, (by show 0 < sizeLine; decide), ?_⟩⟩
      have C := C.add "twice"
      generalize upd H3 r (.lst (([] : List Str).map V.str ++ [.str "twice"])) = H3 at C ⊢
      refine ⟨_, rfl, a, _, de, _, _, _, rfl, C.at_, C.dict, X.ca, .own _, X.is "SamePlace" (by decide +kernel), _, rfl, ifF (by decide +kernel) ?_⟩
      refine ⟨_, rfl, a, _, de, _, _, _, rfl, C.at_, C.dict, X.ca, .own _, X.is "NoWidth" (by decide +kernel), _, rfl, ifF (by decide +kernel) ?_⟩
      refine ⟨_, rfl, a, _, de, _, _, _, rfl, C.at_, C.dict, X.ca, .own _, X.is "NoTie" (by decide +kernel), _, rfl, ifF (by decide +kernel) ?_⟩
      refine ⟨_, rfl, a, _, de, _, _, _, rfl, C.at_, C.dict, X.ca, .own _, X.is "TooMany" (by decide +kernel), _, rfl, ifF (by decide +kernel) ?_⟩
      refine ⟨_, rfl, a, _, de, _, _, _, rfl, C.at_, C.dict, X.ca, .own _, X.is "NoClaim" (by decide +kernel), _, rfl, ifF (by decide +kernel) ?_⟩
      refine ⟨_, rfl, a, _, de, _, _, _, rfl, C.at_, C.dict, X.ca, .own _, X.is "NoPlace" (by decide +kernel), _, rfl, ifF (by decide +kernel) ?_⟩
      refine ⟨_, rfl, a, _, de, _, _, _, rfl, C.at_, C.dict, X.ca, .own _, X.is "NoText" (by decide +kernel), _, rfl, ifF (by decide +kernel) ⟨_, rfl, a, _, de, _, _, _, rfl, C.at_, C.dict, X.ca, .own _, X.is "NoLine" (by decide +kernel), _, rfl, ifF (by decide +kernel) ?_⟩⟩
      refine ⟨_, rfl, rfl, _, rfl, ifT rfl ⟨_, rfl, a, _, de, _, _, _, rfl, C.at_, C.dict, X.ca, .ty _, X.ve, _, rfl, ifF rfl ?_⟩⟩
      exact ⟨_, rfl, q r H3 C.new C.same C.words⟩
    | same =>
      have X : ErX K "SamePlace" := X
      refine ⟨_, rfl, a, _, de, _, _, _, rfl, C.at_, C.dict, X.ca, .own _, X.is "NoName" (by decide +kernel), _, rfl, ifF (by decide +kernel) ?_⟩
      refine ⟨_, rfl, a, _, de, _, _, _, rfl, C.at_, C.dict, X.ca, .own _, X.is "Twice" (by decide +kernel), _, rfl, ifF (by decide +kernel) ?_⟩
      refine ⟨_, rfl, a, _, de, _, _, _, rfl, C.at_, C.dict, X.ca, .own _, X.is "SamePlace" (by decide +kernel), _, rfl, ifT (by decide +kernel) ⟨_, rfl, .inl ⟨rfl, _, SqL.of C.words⟩, r, _, _, rfl, rfl, C.words, (by show 0 < sizeLine; decide), ?_⟩⟩
      have C := C.add "same"
      generalize upd H3 r (.lst (([] : List Str).map V.str ++ [.str "same"])) = H3 at C ⊢
      refine ⟨_, rfl, a, _, de, _, _, _, rfl, C.at_, C.dict, X.ca, .own _, X.is "NoWidth" (by decide +kernel), _, rfl, ifF (by decide +kernel) ?_⟩
      refine ⟨_, rfl, a, _, de, _, _, _, rfl, C.at_, C.dict, X.ca, .own _, X.is "NoTie" (by decide +kernel), _, rfl, ifF (by decide +kernel) ?_⟩
      refine ⟨_, rfl, a, _, de, _, _, _, rfl, C.at_, C.dict, X.ca, .own _, X.is "TooMany" (by decide +kernel), _, rfl, ifF (by decide +kernel) ?_⟩
      refine ⟨_, rfl, a, _, de, _, _, _, rfl, C.at_, C.dict, X.ca, .own _, X.is "NoClaim" (by decide +kernel), _, rfl, ifF (by decide +kernel) ?_⟩
      refine ⟨_, rfl, a, _, de, _, _, _, rfl, C.at_, C.dict, X.ca, .own _, X.is "NoPlace" (by decide +kernel), _, rfl, ifF (by decide +kernel) ?_⟩
      refine ⟨_, rfl, a, _, de, _, _, _, rfl, C.at_, C.dict, X.ca, .own _, X.is "NoText" (by decide +kernel), _, rfl, ifF (by decide +kernel) ⟨_, rfl, a, _, de, _, _, _, rfl, C.at_, C.dict, X.ca, .own _, X.is "NoLine" (by decide +kernel), _, rfl, ifF (by decide +kernel) ?_⟩⟩
      refine ⟨_, rfl, rfl, _, rfl, ifT rfl ⟨_, rfl, a, _, de, _, _, _, rfl, C.at_, C.dict, X.ca, .ty _, X.ve, _, rfl, ifF rfl ?_⟩⟩
      exact ⟨_, rfl, q r H3 C.new C.same C.words⟩
    | width =>
      have X : ErX K "NoWidth" := X
      refine ⟨_, rfl, a, _, de, _, _, _, rfl, C.at_, C.dict, X.ca, .own _, X.is "NoName" (by decide +kernel), _, rfl, ifF (by decide +kernel) ?_⟩
      refine ⟨_, rfl, a, _, de, _, _, _, rfl, C.at_, C.dict, X.ca, .own _, X.is "Twice" (by decide +kernel), _, rfl, ifF (by decide +kernel) ?_⟩
      refine ⟨_, rfl, a, _, de, _, _, _, rfl, C.at_, C.dict, X.ca, .own _, X.is "SamePlace" (by decide +kernel), _, rfl, ifF (by decide +kernel) ?_⟩
      refine ⟨_, rfl, a, _, de, _, _, _, rfl, C.at_, C.dict, X.ca, .own _, X.is "NoWidth" (by decide +kernel), _, rfl, ifT (by decide +kernel) ⟨_, rfl, .inl ⟨rfl, _, SqL.of C.words⟩, r, _, _, rfl, rfl, C.words, (by show 0 < sizeLine; decide), ?_⟩⟩
      have C := C.add "width"
      generalize upd H3 r (.lst (([] : List Str).map V.str ++ [.str "width"])) = H3 at C ⊢
      refine ⟨_, rfl, a, _, de, _, _, _, rfl, C.at_, C.dict, X.ca, .own _, X.is "NoTie" (by decide +kernel), _, rfl, ifF (by decide +kernel) ?_⟩
      refine ⟨_, rfl, a, _, de, _, _, _, rfl, C.at_, C.dict, X.ca, .own _, X.is "TooMany" (by decide +kernel), _, rfl, ifF (by decide +kernel) ?_⟩
      refine ⟨_, rfl, a, _, de, _, _, _, rfl, C.at_, C.dict, X.ca, .own _, X.is "NoClaim" (by decide +kernel), _, rfl, ifF (by decide +kernel) ?_⟩
      refine ⟨_, rfl, a, _, de, _, _, _, rfl, C.at_, C.dict, X.ca, .own _, X.is "NoPlace" (by decide +kernel), _, rfl, ifF (by decide +kernel) ?_⟩
      refine ⟨_, rfl, a, _, de, _, _, _, rfl, C.at_, C.dict, X.ca, .own _, X.is "NoText" (by decide +kernel), _, rfl, ifF (by decide +kernel) ⟨_, rfl, a, _, de, _, _, _, rfl, C.at_, C.dict, X.ca, .own _, X.is "NoLine" (by decide +kernel), _, rfl, ifF (by decide +kernel) ?_⟩⟩
      refine ⟨_, rfl, rfl, _, rfl, ifT rfl ⟨_, rfl, a, _, de, _, _, _, rfl, C.at_, C.dict, X.ca, .ty _, X.ve, _, rfl, ifF rfl ?_⟩⟩
      exact ⟨_, rfl, q r H3 C.new C.same C.words⟩
    | tie =>
      have X : ErX K "NoTie" := X
      refine ⟨_, rfl, a, _, de, _, _, _, rfl, C.at_, C.dict, X.ca, .own _, X.is "NoName" (by decide +kernel), _, rfl, ifF (by decide +kernel) ?_⟩
      refine ⟨_, rfl, a, _, de, _, _, _, rfl, C.at_, C.dict, X.ca, .own _, X.is "Twice" (by decide +kernel), _, rfl, ifF (by decide +kernel) ?_⟩
      refine ⟨_, rfl, a, _, de, _, _, _, rfl, C.at_, C.dict, X.ca, .own _, X.is "SamePlace" (by decide +kernel), _, rfl, ifF (by decide +kernel) ?_⟩
      refine ⟨_, rfl, a, _, de, _, _, _, rfl, C.at_, C.dict, X.ca, .own _, X.is "NoWidth" (by decide +kernel), _, rfl, ifF (by decide +kernel) ?_⟩
      refine ⟨_, rfl, a, _, de, _, _, _, rfl, C.at_, C.dict, X.ca, .own _, X.is "NoTie" (by decide +kernel), _, rfl, ifT (by decide +kernel) ⟨_, rfl, .inl ⟨rfl, _, SqL.of C.words⟩, r, _, _, rfl, rfl, C.words, (by show 0 < sizeLine; decide), ?_⟩⟩
      have C := C.add "tie"
      generalize upd H3 r (.lst (([] : List Str).map V.str ++ [.str "tie"])) = H3 at C ⊢
      refine ⟨_, rfl, a, _, de, _, _, _, rfl, C.at_, C.dict, X.ca, .own _, X.is "TooMany" (by decide +kernel), _, rfl, ifF (by decide +kernel) ?_⟩
      refine ⟨_, rfl, a, _, de, _, _, _, rfl, C.at_, C.dict, X.ca, .own _, X.is "NoClaim" (by decide +kernel), _, rfl, ifF (by decide +kernel) ?_⟩
      refine ⟨_, rfl, a, _, de, _, _, _, rfl, C.at_, C.dict, X.ca, .own _, X.is "NoPlace" (by decide +kernel), _, rfl, ifF (by decide +kernel) ?_⟩
      refine ⟨_, rfl, a, _, de, _, _, _, rfl, C.at_, C.dict, X.ca, .own _, X.is "NoText" (by decide +kernel), _, rfl, ifF (by decide +kernel) ⟨_, rfl, a, _, de, _, _, _, rfl, C.at_, C.dict, X.ca, .own _, X.is "NoLine" (by decide +kernel), _, rfl, ifF (by decide +kernel) ?_⟩⟩
      refine ⟨_, rfl, rfl, _, rfl, ifT rfl ⟨_, rfl, a, _, de, _, _, _, rfl, C.at_, C.dict, X.ca, .ty _, X.ve, _, rfl, ifF rfl ?_⟩⟩
      exact ⟨_, rfl, q r H3 C.new C.same C.words⟩
    | many =>
      have X : ErX K "TooMany" := X
      refine ⟨_, rfl, a, _, de, _, _, _, rfl, C.at_, C.dict, X.ca, .own _, X.is "NoName" (by decide +kernel), _, rfl, ifF (by decide +kernel) ?_⟩
      refine ⟨_, rfl, a, _, de, _, _, _, rfl, C.at_, C.dict, X.ca, .own _, X.is "Twice" (by decide +kernel), _, rfl, ifF (by decide +kernel) ?_⟩
      refine ⟨_, rfl, a, _, de, _, _, _, rfl, C.at_, C.dict, X.ca, .own _, X.is "SamePlace" (by decide +kernel), _, rfl, ifF (by decide +kernel) ?_⟩
      refine ⟨_, rfl, a, _, de, _, _, _, rfl, C.at_, C.dict, X.ca, .own _, X.is "NoWidth" (by decide +kernel), _, rfl, ifF (by decide +kernel) ?_⟩
      refine ⟨_, rfl, a, _, de, _, _, _, rfl, C.at_, C.dict, X.ca, .own _, X.is "NoTie" (by decide +kernel), _, rfl, ifF (by decide +kernel) ?_⟩
      refine ⟨_, rfl, a, _, de, _, _, _, rfl, C.at_, C.dict, X.ca, .own _, X.is "TooMany" (by decide +kernel), _, rfl, ifT (by decide +kernel) ⟨_, rfl, .inl ⟨rfl, _, SqL.of C.words⟩, r, _, _, rfl, rfl, C.words, (by show 0 < sizeLine; decide), ?_⟩⟩
      have C := C.add "many"
      generalize upd H3 r (.lst (([] : List Str).map V.str ++ [.str "many"])) = H3 at C ⊢
      refine ⟨_, rfl, a, _, de, _, _, _, rfl, C.at_, C.dict, X.ca, .own _, X.is "NoClaim" (by decide +kernel), _, rfl, ifF (by decide +kernel) ?_⟩
      refine ⟨_, rfl, a, _, de, _, _, _, rfl, C.at_, C.dict, X.ca, .own _, X.is "NoPlace" (by decide +kernel), _, rfl, ifF (by decide +kernel) ?_⟩
      refine ⟨_, rfl, a, _, de, _, _, _, rfl, C.at_, C.dict, X.ca, .own _, X.is "NoText" (by decide +kernel), _, rfl, ifF (by decide +kernel) ⟨_, rfl, a, _, de, _, _, _, rfl, C.at_, C.dict, X.ca, .own _, X.is "NoLine" (by decide +kernel), _, rfl, ifF (by decide +kernel) ?_⟩⟩
      refine ⟨_, rfl, rfl, _, rfl, ifT rfl ⟨_, rfl, a, _, de, _, _, _, rfl, C.at_, C.dict, X.ca, .ty _, X.ve, _, rfl, ifF rfl ?_⟩⟩
      exact ⟨_, rfl, q r H3 C.new C.same C.words⟩
    | claim =>
      have X : ErX K "NoClaim" := X
      refine ⟨_, rfl, a, _, de, _, _, _, rfl, C.at_, C.dict, X.ca, .own _, X.is "NoName" (by decide +kernel), _, rfl, ifF (by decide +kernel) ?_⟩
      refine ⟨_, rfl, a, _, de, _, _, _, rfl, C.at_, C.dict, X.ca, .own _, X.is "Twice" (by decide +kernel), _, rfl, ifF (by decide +kernel) ?_⟩
      refine ⟨_, rfl, a, _, de, _, _, _, rfl, C.at_, C.dict, X.ca, .own _, X.is "SamePlace" (by decide +kernel), _, rfl, ifF (by decide +kernel) ?_⟩
      refine ⟨_, rfl, a, _, de, _, _, _, rfl, C.at_, C.dict, X.ca, .own _, X.is "NoWidth" (by decide +kernel), _, rfl, ifF (by decide +kernel) ?_⟩
      refine ⟨_, rfl, a, _, de, _, _, _, rfl, C.at_, C.dict, X.ca, .own _, X.is "NoTie" (by decide +kernel), _, rfl, ifF (by decide +kernel) ?_⟩
      refine ⟨_, rfl, a, _, de, _, _, _, rfl, C.at_, C.dict, X.ca, .own _, X.is "TooMany" (by decide +kernel), _, rfl, ifF (by decide +kernel) ?_⟩
      refine ⟨_, rfl, a, _, de, _, _, _, rfl, C.at_, C.dict, X.ca, .own _, X.is "NoClaim" (by decide +kernel), _, rfl, ifT (by decide +kernel) ⟨_, rfl, .inl ⟨rfl, _, SqL.of C.words⟩, r, _, _, rfl, rfl, C.words, (by show 0 < sizeLine; decide), ?_⟩⟩
      have C := C.add "claim"
      generalize upd H3 r (.lst (([] : List Str).map V.str ++ [.str "claim"])) = H3 at C ⊢
      refine ⟨_, rfl, a, _, de, _, _, _, rfl, C.at_, C.dict, X.ca, .own _, X.is "NoPlace" (by decide +kernel), _, rfl, ifF (by decide +kernel) ?_⟩
      refine ⟨_, rfl, a, _, de, _, _, _, rfl, C.at_, C.dict, X.ca, .own _, X.is "NoText" (by decide +kernel), _, rfl, ifF (by decide +kernel) ⟨_, rfl, a, _, de, _, _, _, rfl, C.at_, C.dict, X.ca, .own _, X.is "NoLine" (by decide +kernel), _, rfl, ifF (by decide +kernel) ?_⟩⟩
      refine ⟨_, rfl, rfl, _, rfl, ifT rfl ⟨_, rfl, a, _, de, _, _, _, rfl, C.at_, C.dict, X.ca, .ty _, X.ve, _, rfl, ifF rfl ?_⟩⟩
      exact ⟨_, rfl, q r H3 C.new C.same C.words⟩
    | place z =>
      have X : ErX K "NoPlace" := X
      refine ⟨_, rfl, a, _, de, _, _, _, rfl, C.at_, C.dict, X.ca, .own _, X.is "NoName" (by decide +kernel), _, rfl, ifF (by decide +kernel) ?_⟩
      refine ⟨_, rfl, a, _, de, _, _, _, rfl, C.at_, C.dict, X.ca, .own _, X.is "Twice" (by decide +kernel), _, rfl, ifF (by decide +kernel) ?_⟩
      refine ⟨_, rfl, a, _, de, _, _, _, rfl, C.at_, C.dict, X.ca, .own _, X.is "SamePlace" (by decide +kernel), _, rfl, ifF (by decide +kernel) ?_⟩
      refine ⟨_, rfl, a, _, de, _, _, _, rfl, C.at_, C.dict, X.ca, .own _, X.is "NoWidth" (by decide +kernel), _, rfl, ifF (by decide +kernel) ?_⟩
      refine ⟨_, rfl, a, _, de, _, _, _, rfl, C.at_, C.dict, X.ca, .own _, X.is "NoTie" (by decide +kernel), _, rfl, ifF (by decide +kernel) ?_⟩
      refine ⟨_, rfl, a, _, de, _, _, _, rfl, C.at_, C.dict, X.ca, .own _, X.is "TooMany" (by decide +kernel), _, rfl, ifF (by decide +kernel) ?_⟩
      refine ⟨_, rfl, a, _, de, _, _, _, rfl, C.at_, C.dict, X.ca, .own _, X.is "NoClaim" (by decide +kernel), _, rfl, ifF (by decide +kernel) ?_⟩
      obtain ⟨dd, rfl, hdd⟩ := C.fld z rfl
      refine ⟨_, rfl, a, _, some dd, _, _, _, rfl, C.at_, C.dict, X.ca, .own _, X.is "NoPlace" (by decide +kernel), _, rfl, ifT (by decide +kernel) ⟨_, rfl, .inl ⟨rfl, _, SqL.of C.words⟩, _, rfl, a, _, dd, _, _, rfl, C.at_, hdd, T.npF, T.npN, rfl, _, _, rfl, rfl, place_len hw, r, _, _, rfl, rfl, C.words, (by show 0 < sizeLine; decide), ?_⟩⟩
      have C : Caught K H (Er.place z) a (some dd) r ([] ++ [("place " : Str) ++ z]) (upd H3 r (.lst (([] : List Str).map V.str ++ [.str (("place " : Str) ++ z)]))) := C.add _
      generalize upd H3 r (.lst (([] : List Str).map V.str ++ [.str (("place " : Str) ++ z)])) = H3 at C ⊢
      refine ⟨_, rfl, a, _, some dd, _, _, _, rfl, C.at_, C.dict, X.ca, .own _, X.is "NoText" (by decide +kernel), _, rfl, ifF (by decide +kernel) ⟨_, rfl, a, _, some dd, _, _, _, rfl, C.at_, C.dict, X.ca, .own _, X.is "NoLine" (by decide +kernel), _, rfl, ifF (by decide +kernel) ?_⟩⟩
      refine ⟨_, rfl, rfl, _, rfl, ifT rfl ⟨_, rfl, a, _, some dd, _, _, _, rfl, C.at_, C.dict, X.ca, .ty _, X.ve, _, rfl, ifF rfl ?_⟩⟩
      exact ⟨_, rfl, q r H3 C.new C.same C.words⟩
end
end Nc
end

section
set_option maxHeartbeats 4000000
namespace Nc
open PySem PySem.Spec PyProof.Rows L2
/-! _law_look -/
def lookD (ps : List Str) (ts : List Tie) (ss : List Std) : PyData := .tuple [.list (ps.map PyData.str), .list (ts.map Tie.d), .list ((ss.map Std.nm).map PyData.str), .list (ss.map Std.d)]
/-- what may be told of a claim -/
def Std.tell (s : Std) : Prop := (∃ ws : List Str, s.c.d = .tuple (ws.map PyData.str) ∧ ws.length ≤ 1000) ∧ papOk 2 s.pap
def spLook (K : PySem.W.Frag) : Sp := fun vs H Q _ => ∃ (b n k l nm st : Addr) (ps : List Str) (ts : List Tie) (ss : List Std), vs = [.ref b] ∧ BookIs K H b n k l nm st ps ts ss ∧ Small ps ts ss ∧ (ss.map Std.nm).Nodup ∧ (∀ s ∈ ss, s.tell) ∧
  ∀ v H', Same H H' → Dp K H' v (lookD ps ts ss) → Q v H'
theorem nodup_first {names : List Str} (h : names.Nodup) {i : Nat} {z : Str} (hz : names[i]? = some z) : firstAt names z i := ⟨hz, fun j u hj hu e => by
  rw [e] at hu
  have q := nd_ix h hu hz
  omega⟩
section
variable {P : Program} {w : World} {K : PySem.W.Frag} {mg : Str → Option Value} {base : Heap}
theorem sc_look : FnScope ["_law_book", "_law_net", "_law_names", "_law_told", "_law_name"] ["_law_book"] (defScope sLook) := ⟨rfl, rfl, rfl, by decide +kernel, rfl, by decide +kernel, by decide +kernel⟩
theorem rd_look (T : Txt K mg) : Rd P w K mg base 5 "_law_look" ["_law_book"] (spLook K) := by
  obtain ⟨f1, fd1, G1, m1, b1⟩ := (rm_bkNet (P := P) (w := w) (base := base) T).ex
  obtain ⟨f2, fd2, G2, m2, b2⟩ := ((rm_bkClaims (P := P) (w := w) (base := base) T).mono (show 1 ≤ 4 by decide)).ex
  obtain ⟨f3, fd3, G3, m3, b3⟩ := ((rm_bkClaim (P := P) (w := w) (base := base) T).mono (show 3 ≤ 4 by decide)).ex
  obtain ⟨f4, fd4, G4, m4, b4⟩ := ((rm_bkVerdict (P := P) (w := w) (base := base) T).mono (show 3 ≤ 4 by decide)).ex
  obtain ⟨f5, fd5, G5, m5, b5⟩ := (rm_bkPaper (P := P) (w := w) (base := base) T).ex
  obtain ⟨f6, fd6, G6, m6, b6⟩ := ((rm_places (P := P) (w := w) (base := base) T).mono (show 1 ≤ 4 by decide)).ex
  obtain ⟨f7, fd7, G7, m7, b7⟩ := ((rm_ties (P := P) (w := w) (base := base) T).mono (show 1 ≤ 4 by decide)).ex
  refine rd_mk T.look (fun _ _ _ _ _ _ us hl => match us, hl with | [_], _ => rfl) sc_look (fun vs H Q E h => ?_) (fun f cdv A outer s H vs Q E hr h => ?_)
  · obtain ⟨b, n, k, l, nm, st, ps, ts, ss, rfl, _⟩ := h
    rfl
  · obtain ⟨b, n, k, l, nm, st, ps, ts, ss, rfl, B, ⟨z1, z2, z3⟩, hnd, htell, q⟩ := h
    have nd := sc_look.nd
    have nb : ∀ {m : Str}, ¬ m = "held_net" → ¬ m = "names" → ¬ m = "stated" → (bF n nm st).lookup m = none := fun h1 h2 h3 => bF_no _ _ _ h1 h2 h3
    refine ⟨_, pss_cons (ps_set (i := 1) nd rfl (Or.inl rfl) (pe_meth0 (pv 0) T.clB m1 G1 hr b1 .nil passL)) <|
      pss_cons (ps_set (i := 2) nd rfl (Or.inl rfl) (pe_meth0 (pv 0) T.clB m2 G2 hr b2 .nil passL)) <|
      pss_cons (ps_setLc (i := 3) (own := [("_law_name", 4)]) (g := gName 4) (tt := tYes) (te := tTup (tCons (tMeth (gA K "Book") "claim" (spBkAt K wClaim) [] E0 (tVar 0) (tCons (tVar 4) tNil)) (tCons (tMeth (gA K "Book") "verdict" (spBkAt K wVerdict) [] E0 (tVar 0) (tCons (tVar 4) tNil)) (tCons (tMeth (gA K "Book") "paper" (spBkPaper K) [] E0 (tVar 0) (tCons (tVar 4) tNil)) tNil)))) rfl nd rfl rfl (sw_true rfl rfl rfl (by decide +kernel)) (pi_list (pv 2))
        (blkOk_by (N := ["_law_book", "_law_net", "_law_names", "_law_told", "_law_name"]) (sc := defScope sLook) (by decide +kernel)) (fun _ _ _ _ _ => pg_name (i := 4) nd rfl (Or.inl rfl)) (fun _ _ _ _ _ => pts_nil)
        (fun _ _ _ _ _ => by exact pe_tup (pa_cons (pe_meth (pv 0) T.clB m3 G3 hr b3 .nil passL (pa_cons (pv 4) pa_nil)) (pa_cons (pe_meth (pv 0) T.clB m4 G4 hr b4 .nil passL (pa_cons (pv 4) pa_nil)) (pa_cons (pe_meth (pv 0) T.clB m5 G5 hr b5 .nil passL (pa_cons (pv 4) pa_nil)) pa_nil))))) <|
      pss_one (ps_ret (pe_tup (pa_cons (pe_meth0 (pv 1) T.clN m6 G6 hr b6 .nil passL) (pa_cons (pe_meth0 (pv 1) T.clN m7 G7 hr b7 .nil passL) (pa_cons (pv 2) (pa_cons (pv 3) pa_nil)))))), ?_⟩
    obtain ⟨dx, hb⟩ := B.ob
    refine ⟨_, rfl, b, dx, _, rfl, hb, nb (by decide +kernel) (by decide +kernel) (by decide +kernel), b, n, k, l, nm, st, ps, ts, ss, rfl, B, fun n2 k2 l2 H1 s1 N2 => ?_⟩
    refine ⟨_, rfl, b, dx, _, rfl, s1 _ _ hb, nb (by decide +kernel) (by decide +kernel) (by decide +kernel), b, n, k, l, nm, st, ps, ts, ss, rfl, B.same s1, fun rn H2 nrn s2 hrn => ?_⟩
    have s02 : Same H H2 := s1.trans s2
    have B2 := B.same s02
    refine ⟨_, rfl, rn, rfl, ⟨_, SqL.of hrn⟩, fun D hD => ?_⟩
    refine lc_list (K := K) (a := rn) (xs := (ss.map Std.nm).map V.str) (fun i H' => ∃ acc : List V, H' D = some (.lst acc) ∧ DpAll K (hid [D] H') acc ((ss.take i).map Std.d) ∧ Same H2 H')
      ⟨[], upd_same, .nil, Same.new hD⟩ (fun i H' _ ⟨_, _, _, s⟩ => SqL.of (s _ _ hrn)) ?_ ?_
    · rintro i x H3 hi ⟨acc, e1, e2, s3⟩
      obtain ⟨z, hzi, rfl⟩ := map_at hi
      have hf := nodup_first hnd hzi
      obtain ⟨sd, hsd, hsn⟩ := firstAt_std hf
      obtain ⟨⟨ws, hws, lws⟩, hpap⟩ := htell sd (List.mem_of_getElem? hsd)
      have hin : z ∈ ss.map Std.nm := List.mem_of_getElem? hzi
      have uj : ∀ {j : Nat} {s' : Std}, firstAt (ss.map Std.nm) z j → ss[j]? = some s' → s' = sd := fun {j s'} h1 h2 => by
        have q := nd_ix hnd h1.1 hzi
        rw [q, hsd] at h2
        exact (Option.some.inj h2).symm
      have B3 := B2.same s3
      have tk : ss.take (i + 1) = ss.take i ++ [sd] := by rw [List.take_add_one, hsd]; rfl
      have lac : acc.length ≤ 1000 := by
        have h := e2.length
        rw [List.length_map] at h
        have := List.length_take_le' i ss
        omega
      refine ⟨rfl, ?_⟩
      refine ⟨_, rfl, b, dx, _, rfl, s3 _ _ (s02 _ _ hb), nb (by decide +kernel) (by decide +kernel) (by decide +kernel), _, rfl, b, n, k, l, nm, st, ps, ts, ss, z, rfl, B3, fun h => absurd hin h, fun j s' h1 h2 => ?_⟩
      obtain rfl := uj h1 h2
      refine ⟨ws, hws, lws, fun rc H4 nrc s4 hrc => ?_⟩
      have B4 := B3.same s4
      have s34 : Same H2 H4 := s3.trans s4
      refine ⟨_, rfl, b, dx, _, rfl, s34 _ _ (s02 _ _ hb), nb (by decide +kernel) (by decide +kernel) (by decide +kernel), _, rfl, b, n, k, l, nm, st, ps, ts, ss, z, rfl, B4, fun h => absurd hin h, fun j s'' h1' h2' => ?_⟩
      obtain rfl := uj h1' h2'
      unfold wVerdict
      have nDH : H2 D = none := hD
      refine ⟨_, rfl, b, dx, _, rfl, s34 _ _ (s02 _ _ hb), nb (by decide +kernel) (by decide +kernel) (by decide +kernel), _, rfl, b, n, k, l, nm, st, ps, ts, ss, z, H2, [D], rfl, B2, s34, fun a ha => ?_, fun h => absurd hin h, fun j s3' h1'' h2'' => ?_⟩
      · simp only [List.mem_cons, List.not_mem_nil, or_false] at ha
        rw [ha]
        exact ⟨nDH, _, s4 _ _ e1⟩
      obtain rfl := uj h1'' h2''
      refine ⟨hpap, fun v5 H5 s5 hv5 => ⟨(by show 3 ≤ sizeLine; decide), fun t ht => ?_⟩⟩
      have eD5 : H5 D = some (.lst acc) := s5 _ _ (s4 _ _ e1)
      have nDt : D ≠ t := ne_of_none eD5 ht
      have nDc : rc ≠ D := (ne_of_none e1 nrc).symm
      refine ⟨acc, by rw [upd_ne nDt]; exact eD5, small1000 lac, acc ++ [.ref t], upd_same, ?_, fun x o e => ?_⟩
      · have eh : Same (hid [D] H5) (hid [D] (upd (upd H5 t (.tup [.ref rc, .bl s3'.so, v5])) D (.lst (acc ++ [.ref t])))) := fun x o e => by
          by_cases hx : x = D
          · unfold hid at e
            rw [if_pos (by simp [hx])] at e
            cases e
          · rw [hid_of (by simp [hx])] at e ⊢
            rw [upd_ne hx, upd_ne (ne_of_none e ht)]
            exact e
        rw [tk, List.map_append]
        refine DpAll.append (DpAll.same ((s4.trans s5).but.hid.trans eh) _ _ e2) (.cons (.tup (xs := [.ref rc, .bl s3'.so, v5]) (SqT.of ?_) (.cons ?_ (.cons (.bl _) (.cons (Dp.same eh _ _ hv5) .nil)))) .nil)
        · rw [hid_of (by simp [nDt.symm]), upd_ne nDt.symm, upd_same]
        · rw [hws]
          refine Dp.same eh _ _ (.tup (SqT.of ?_) (DpAll.strs ws))
          rw [hid_of (by simp [nDc])]
          exact s5 _ _ hrc
      · have nb : x ≠ D := ne_of_none e hD
        rw [upd_ne nb, upd_ne (ne_of_none (s5 _ _ (s34 _ _ e)) ht)]
        exact s5 _ _ (s34 _ _ e)
    rintro H3 ⟨acc, e1, e2, s3⟩
    rw [List.length_map, List.length_map, List.take_length] at e2
    have s03 : Same H H3 := s02.trans s3
    have N3 := N2.same (s2.trans s3)
    obtain ⟨dn, hn2⟩ := N3.ob
    refine ⟨_, rfl, n2, dn, _, rfl, hn2, nF_no _ _ (by decide +kernel) (by decide +kernel), n2, k2, l2, ps, ts, [], rfl, N3, fun rp H4 nrp s4 hrp => ?_⟩
    refine ⟨_, rfl, n2, dn, _, rfl, s4 _ _ hn2, nF_no _ _ (by decide +kernel) (by decide +kernel), n2, k2, l2, ps, ts, [], rfl, N3.same s4, fun rt tvs H5 nrt s5 hrt hta => ?_⟩
    refine ⟨_, rfl, _, rfl, (by show 4 ≤ sizeLine; decide), fun t ht => ?_⟩
    have s35 : Same H3 H5 := s4.trans s5
    have s6 : Same H5 (upd H5 t (.tup [.ref rp, .ref rt, .ref rn, .ref D])) := Same.new ht
    refine q _ _ (s03.trans (s35.trans s6)) (.tup (SqT.of upd_same) (.cons (.lst (SqL.of (s6 _ _ (s5 _ _ hrp))) (DpAll.strs ps)) (.cons (.lst (SqL.of (s6 _ _ hrt)) (DpAll.same (hid_same.trans s6) _ _ hta))
      (.cons (.lst (SqL.of (s6 _ _ (s35 _ _ (s3 _ _ hrn)))) (DpAll.strs _)) (.cons (.lst (SqL.of (s6 _ _ (s35 _ _ e1))) (DpAll.same (hid_same.trans (s35.trans s6)) _ _ e2)) .nil)))))
end
end Nc
end

section
set_option maxHeartbeats 4000000
namespace Nc
open PySem PySem.Spec PyProof.Rows L2
/-! _law_wrong: the menu of what is refused -/
def odds : List Str := ["", "Ann", "a1", "a b", "abcdefghijklm", "ann ", "-"]
def cl1 (a b strange : Str) : Cl := .each "X" a (.or (.way "X" strange) (.way "somewhere" b))
def cl2 (a b far : Str) : Cl := .atm [a, far] "qq" b
def firstOf (strange : Str) : Str := if strange = "X" then "somewhere" else strange
def farOf (strange : Str) : Str := strange ++ "qqq"
def menu (odd a b strange t0 t1 name : Str) (less : Int) : List (Deed × Str) := [
  (.place odd, "name"), (.place a, "twice"), (.tie odd a a 0 1, "name"), (.tie "fresh" odd a 1 1, "name"), (.tie t0 a a less 0, "twice"), (.tie "fresh" a a less 0, "same"), (.tie "fresh" a b less 0, "width"),
  (.cut "fresh", "tie"), (.cut odd, "tie"), (.alter "fresh" less 0, "tie"), (.alter t1 less 5, "width"), (.state odd (cl1 a b strange), "name"), (.state name (cl1 a b strange), "twice"),
  (.state "fresh" (cl1 a b strange), ("place " : Str) ++ firstOf strange), (.forget "fresh", "claim"), (.forget odd, "claim"), (.state "fresh" (cl2 a b (farOf strange)), ("place " : Str) ++ farOf strange),
  (.claim "fresh", "claim"), (.verdict odd, "claim"), (.paper "fresh", "claim")]
def dW (m : Deed × Str) : PyData := .tuple (m.1.ds ++ [.str m.2])
structure WEnv (K : PySem.W.Frag) (H : Hp) (pl tl : Addr) (p0 p1 p2 t0 t1 : Str) : Prop where
  hp : SqL K H pl [.str p0, .str p1, .str p2]
  ht : SqL K H tl [.str t0, .str t1]
theorem WEnv.same {K : PySem.W.Frag} {H H' : Hp} {pl tl : Addr} {p0 p1 p2 t0 t1 : Str} (W : WEnv K H pl tl p0 p1 p2 t0 t1) (s : Same H H') : WEnv K H' pl tl p0 p1 p2 t0 t1 := ⟨s.seq W.hp, s.seq W.ht⟩
def spWrong (K : PySem.W.Frag) : Sp := fun vs H Q _ => ∃ (c : Int) (pl tl : Addr) (name p0 p1 p2 t0 t1 : Str), vs = [.int c, .ref pl, .ref tl, .str name] ∧ WEnv K H pl tl p0 p1 p2 t0 t1 ∧ (∀ z ∈ [p0, p1, p2], z.length ≤ 100) ∧
  ∀ (odd a b strange : Str) (less : Int) (m : Deed × Str), odd ∈ odds → (a, b) ∈ [(p0, p1), (p1, p2), (p2, p0)] → less ≤ 0 → strange ∈ [("nowhere" : Str), "X", "", a ++ "a"] → m ∈ menu odd a b strange t0 t1 name less →
    ∀ v H', Same H H' → Dp K H' v (dW m) → Q v H'
theorem strange_len {a z : Str} (la : a.length ≤ 100) (h : z ∈ [("nowhere" : Str), "X", "", a ++ "a"]) : z.length ≤ 101 := by
  simp only [List.mem_cons, List.not_mem_nil, or_false] at h
  have e : (a ++ "a" : Str).length = a.length + ("a" : Str).length := Array.size_append ..
  have e1 : ("a" : Str).length = 1 := by decide +kernel
  rcases h with rfl | rfl | rfl | rfl
  · decide +kernel
  · decide +kernel
  · decide +kernel
  · omega
theorem first_len {z : Str} (h : z.length ≤ 101) : (firstOf z).length ≤ 101 := by
  unfold firstOf
  by_cases e : z = "X"
  · rw [if_pos e]
    decide +kernel
  · rw [if_neg e]
    exact h
theorem first_ix (z : Str) : (if decide (V.str z = V.str "X") = true then (1 : Int) else 0) = ((if z = "X" then 1 else 0 : Nat) : Int) := by
  by_cases e : z = "X"
  · rw [if_pos e, if_pos (decide_eq_true (by rw [e]))]
    rfl
  · rw [if_neg e, if_neg (by rw [decide_eq_false fun q => e (V.str.inj q)]; exact Bool.noConfusion)]
    rfl
theorem first_at (z : Str) : ([V.str z, V.str "somewhere"] : List V)[(if z = "X" then 1 else 0 : Nat)]? = some (.str (firstOf z)) := by
  unfold firstOf
  by_cases e : z = "X"
  · rw [if_pos e, if_pos e]
    rfl
  · rw [if_neg e, if_neg e]
    rfl
theorem nx_norm {i : Nat} {v : V} {σ σ' : L2.St} {H : Hp} {Q : L2.St → Hp → Prop} (h : σ.set i (some v) = σ') (g : Q σ' H) : gName i v σ H Q := by
  subst h
  exact g
section
variable {P : Program} {w : World} {K : PySem.W.Frag} {mg : Str → Option Value} {base : Heap}
theorem sc_wrong : FnScope ["_law_cell", "_law_places", "_law_ties", "_law_name", "_law_odd", "_law_a", "_law_b", "_law_less", "_law_strange", "_law_claim", "_law_first", "_law_some", "_law_far"] ["_law_cell", "_law_places", "_law_ties", "_law_name"] (defScope sWrong) := ⟨rfl, rfl, rfl, by decide +kernel, rfl, by decide +kernel, by decide +kernel⟩
set_option maxHeartbeats 20000000 in
theorem rd_wrong (T : Txt K mg) : Rd P w K mg base 1 "_law_wrong" ["_law_cell", "_law_places", "_law_ties", "_law_name"] (spWrong K) := by
  refine rd_mk T.wrong (fun _ _ _ _ _ _ us hl => match us, hl with | [_, _, _, _], _ => rfl) sc_wrong (fun vs H Q E h => ?_) (fun f cdv A outer s H vs Q E hr h => ?_)
  · obtain ⟨c, pl, tl, name, p0, p1, p2, t0, t1, rfl, _⟩ := h
    rfl
  · obtain ⟨c, pl, tl, name, p0, p1, p2, t0, t1, rfl, W, hlen, q⟩ := h
    have nd := sc_wrong.nd
    refine ⟨_, pss_cons (ps_set (i := 4) nd rfl (Or.inl rfl) (pe_ix ix_list (pe_lst (pa_cons pe_str (pa_cons pe_str (pa_cons pe_str (pa_cons pe_str (pa_cons pe_str (pa_cons pe_str (pa_cons pe_str pa_nil)))))))) (pe_op op_mod (pe_op op_fdiv (pv 0) pe_int) pe_int) (fun _ _ => rfl))) <|
      pss_cons (ps_set (i := 5) nd rfl (Or.inl rfl) (pe_ix ix_list (pv 1) (pe_op op_mod (pe_op op_fdiv (pv 0) pe_int) pe_int) (fun _ _ => rfl))) <|
      pss_cons (ps_set (i := 6) nd rfl (Or.inl rfl) (pe_ix ix_list (pv 1) (pe_op op_mod (pe_op op_add (pe_op op_fdiv (pv 0) pe_int) pe_int) pe_int) (fun _ _ => rfl))) <|
      pss_cons (ps_set (i := 7) nd rfl (Or.inl rfl) (pe_op op_sub pe_int (pe_op op_mod (pe_op op_fdiv (pv 0) pe_int) (pe_op op_pow pe_int pe_int)))) <|
      pss_cons (ps_set (i := 8) nd rfl (Or.inl rfl) (pe_ix ix_list (pe_lst (pa_cons pe_str (pa_cons pe_str (pa_cons pe_str (pa_cons (pe_op op_add_str (pv 5) pe_str) pa_nil))))) (pe_op op_mod (pe_op op_fdiv (pv 0) pe_int) pe_int) (fun _ _ => rfl))) <|
      pss_cons (ps_set (i := 9) nd rfl (Or.inl rfl) (pe_tup (pa_cons pe_str (pa_cons pe_str (pa_cons (pe_tup (pa_cons pe_str (pa_cons (pv 5) pa_nil))) (pa_cons (pe_tup (pa_cons pe_str (pa_cons (pe_tup (pa_cons pe_str (pa_cons pe_str (pa_cons (pv 8) pa_nil)))) (pa_cons (pe_tup (pa_cons pe_str (pa_cons pe_str (pa_cons (pv 6) pa_nil)))) pa_nil)))) pa_nil)))))) <|
      pss_cons (ps_set (i := 10) nd rfl (Or.inl rfl) (pe_ix ix_list (pe_lst (pa_cons (pv 8) (pa_cons pe_str pa_nil))) (pe_callTy call_int1 rfl T.int boot_int (pa_cons (pe_cmpR op_eq (pv 8) pe_str (nomark _)) pa_nil)) (fun _ _ => rfl))) <|
      pss_cons (ps_set (i := 11) nd rfl (Or.inl rfl) (pe_lst (pa_cons (pe_tup (pa_cons pe_str (pa_cons (pv 4) (pa_cons pe_str pa_nil)))) (pa_cons (pe_tup (pa_cons pe_str (pa_cons (pv 5) (pa_cons pe_str pa_nil)))) (pa_cons (pe_tup (pa_cons pe_str (pa_cons (pv 4) (pa_cons (pv 5) (pa_cons (pv 5) (pa_cons pe_int (pa_cons pe_int (pa_cons pe_str pa_nil)))))))) pa_nil))))) <|
      pss_cons (ps_set (i := 11) nd rfl (Or.inl rfl) (pe_op op_cat (pv 11) (pe_lst (pa_cons (pe_tup (pa_cons pe_str (pa_cons pe_str (pa_cons (pv 4) (pa_cons (pv 5) (pa_cons pe_int (pa_cons pe_int (pa_cons pe_str pa_nil)))))))) (pa_cons (pe_tup (pa_cons pe_str (pa_cons (pe_ix ix_list (pv 2) pe_int (fun _ _ => rfl)) (pa_cons (pv 5) (pa_cons (pv 5) (pa_cons (pv 7) (pa_cons pe_int (pa_cons pe_str pa_nil)))))))) pa_nil))))) <|
      pss_cons (ps_set (i := 11) nd rfl (Or.inl rfl) (pe_op op_cat (pv 11) (pe_lst (pa_cons (pe_tup (pa_cons pe_str (pa_cons pe_str (pa_cons (pv 5) (pa_cons (pv 5) (pa_cons (pv 7) (pa_cons pe_int (pa_cons pe_str pa_nil)))))))) (pa_cons (pe_tup (pa_cons pe_str (pa_cons pe_str (pa_cons (pv 5) (pa_cons (pv 6) (pa_cons (pv 7) (pa_cons pe_int (pa_cons pe_str pa_nil)))))))) pa_nil))))) <|
      pss_cons (ps_set (i := 11) nd rfl (Or.inl rfl) (pe_op op_cat (pv 11) (pe_lst (pa_cons (pe_tup (pa_cons pe_str (pa_cons pe_str (pa_cons pe_str pa_nil)))) (pa_cons (pe_tup (pa_cons pe_str (pa_cons (pv 4) (pa_cons pe_str pa_nil)))) (pa_cons (pe_tup (pa_cons pe_str (pa_cons pe_str (pa_cons (pv 7) (pa_cons pe_int (pa_cons pe_str pa_nil)))))) pa_nil)))))) <|
      pss_cons (ps_set (i := 11) nd rfl (Or.inl rfl) (pe_op op_cat (pv 11) (pe_lst (pa_cons (pe_tup (pa_cons pe_str (pa_cons (pe_ix ix_list (pv 2) pe_int (fun _ _ => rfl)) (pa_cons (pv 7) (pa_cons pe_int (pa_cons pe_str pa_nil)))))) (pa_cons (pe_tup (pa_cons pe_str (pa_cons (pv 4) (pa_cons (pv 9) (pa_cons pe_str pa_nil))))) (pa_cons (pe_tup (pa_cons pe_str (pa_cons (pv 3) (pa_cons (pv 9) (pa_cons pe_str pa_nil))))) pa_nil)))))) <|
      pss_cons (ps_set (i := 11) nd rfl (Or.inl rfl) (pe_op op_cat (pv 11) (pe_lst (pa_cons (pe_tup (pa_cons pe_str (pa_cons pe_str (pa_cons (pv 9) (pa_cons (pe_op op_add_str pe_str (pv 10)) pa_nil))))) (pa_cons (pe_tup (pa_cons pe_str (pa_cons pe_str (pa_cons pe_str pa_nil)))) (pa_cons (pe_tup (pa_cons pe_str (pa_cons (pv 4) (pa_cons pe_str pa_nil)))) pa_nil)))))) <|
      pss_cons (ps_set (i := 12) nd rfl (Or.inl rfl) (pe_op op_add_str (pv 8) pe_str)) <|
      pss_cons (ps_expr (pe_bm PySem.F.plainAttrs_list PySem.F.slot_list_append PySem.F.type_list_append mt_append (pv 11) (pa_cons (pe_tup (pa_cons pe_str (pa_cons pe_str (pa_cons (pe_tup (pa_cons pe_str (pa_cons (pe_tup (pa_cons pe_str (pa_cons (pe_tup (pa_cons pe_str (pa_cons (pe_lst (pa_cons (pv 5) (pa_cons (pv 12) pa_nil))) pa_nil))) pa_nil))) (pa_cons (pe_tup (pa_cons pe_str (pa_cons pe_str (pa_cons (pv 6) pa_nil)))) pa_nil)))) (pa_cons (pe_op op_add_str pe_str (pv 12)) pa_nil))))) pa_nil))) <|
      pss_cons (ps_set (i := 11) nd rfl (Or.inl rfl) (pe_op op_cat (pv 11) (pe_lst (pa_cons (pe_tup (pa_cons pe_str (pa_cons pe_str (pa_cons pe_str pa_nil)))) (pa_cons (pe_tup (pa_cons pe_str (pa_cons (pv 4) (pa_cons pe_str pa_nil)))) (pa_cons (pe_tup (pa_cons pe_str (pa_cons pe_str (pa_cons pe_str pa_nil)))) pa_nil)))))) <|
      pss_one (ps_ret (pe_ix ix_list (pv 11) (pe_op op_mod (pv 0) pe_int) (fun _ _ => rfl))), ?_⟩
    have sA : Same H H := Same.refl H
    obtain ⟨jo, hjo, ljo⟩ : ∃ j : Nat, c / 20 % 7 = j ∧ j < 7 := ⟨(c / 20 % 7).toNat, by omega, by omega⟩
    obtain ⟨odd, hodd⟩ : ∃ odd, odds[jo]? = some odd := ⟨odds[jo], List.getElem?_eq_getElem ljo⟩
    have modd : odd ∈ odds := List.mem_of_getElem? hodd
    obtain ⟨ja, hja, lja⟩ : ∃ j : Nat, c / 20 % 3 = j ∧ j < 3 := ⟨(c / 20 % 3).toNat, by omega, by omega⟩
    have hjb : (c / 20 + 1) % 3 = (((ja + 1) % 3 : Nat) : Int) := by omega
    obtain ⟨a, b, ha, hb, mab⟩ : ∃ a b, ([V.str p0, V.str p1, V.str p2] : List V)[ja]? = some (.str a) ∧ ([V.str p0, V.str p1, V.str p2] : List V)[(ja + 1) % 3]? = some (.str b) ∧ (a, b) ∈ [(p0, p1), (p1, p2), (p2, p0)] := by
      match ja, lja with
      | 0, _ => exact ⟨p0, p1, rfl, rfl, by simp⟩
      | 1, _ => exact ⟨p1, p2, rfl, rfl, by simp⟩
      | 2, _ => exact ⟨p2, p0, rfl, rfl, by simp⟩
    have la : a.length ≤ 100 := by
      simp only [List.mem_cons, Prod.mk.injEq, List.not_mem_nil, or_false] at mab
      rcases mab with ⟨rfl, _⟩ | ⟨rfl, _⟩ | ⟨rfl, _⟩ <;> exact hlen _ (by simp)
    obtain ⟨js, hjs, ljs⟩ : ∃ j : Nat, c / 140 % 4 = j ∧ j < 4 := ⟨(c / 140 % 4).toNat, by omega, by omega⟩
    obtain ⟨strange, hstr⟩ : ∃ z, ([("nowhere" : Str), "X", "", a ++ "a"] : List Str)[js]? = some z := ⟨_, List.getElem?_eq_getElem ljs⟩
    have mstr : strange ∈ [("nowhere" : Str), "X", "", a ++ "a"] := List.mem_of_getElem? hstr
    have lstr : strange.length ≤ 101 := strange_len la mstr
    have pf_len : ("place " : Str).length + (firstOf strange).length ≤ sizeLine := by
      have h1 : ("place " : Str).length = 6 := by decide +kernel
      have h2 : (firstOf strange).length ≤ 101 := first_len lstr
      rw [h1]
      exact z1000 (by omega)
    have a_len : a.length + ("a" : Str).length ≤ sizeLine := by
      have h1 : ("a" : Str).length = 1 := by decide +kernel
      rw [h1]
      exact z1000 (by omega)
    have q_len : ("qqq" : Str).length = 3 := by decide +kernel
    obtain ⟨less, hless⟩ : ∃ less : Int, less = 0 - c / 20 % 10 ^ (30 : Int).toNat := ⟨_, rfl⟩
    have mless : less ≤ 0 := by
      have := Int.emod_nonneg (c / 20) (b := 10 ^ (30 : Int).toNat) (by decide +kernel)
      omega
    -- odd
    refine ⟨(by show _ ≤ sizeLine; exact z1000 (by simp)), fun q1 hq1 => ?_⟩
    have s1 : Same H (upd H q1 (.lst [.str "", .str "Ann", .str "a1", .str "a b", .str "abcdefghijklm", .str "ann ", .str "-"])) := Same.new hq1
    have e1 : upd H q1 (.lst [.str "", .str "Ann", .str "a1", .str "a b", .str "abcdefghijklm", .str "ann ", .str "-"]) q1 = some (.lst [.str "", .str "Ann", .str "a1", .str "a b", .str "abcdefghijklm", .str "ann ", .str "-"]) := upd_same
    generalize upd H q1 (.lst [.str "", .str "Ann", .str "a1", .str "a b", .str "abcdefghijklm", .str "ann ", .str "-"]) = H1 at s1 e1 ⊢
    have sA : Same H H1 := sA.trans s1
    have W := W.same s1
    refine ⟨_, rfl, _, _, rfl, rfl, ⟨by decide, by decide⟩, _, _, rfl, rfl, (by show (0 : Int) < 7; decide), q1, _, _, _, rfl, rfl, SqL.of e1, at_of hjo (show (odds.map V.str)[jo]? = some (.str odd) by rw [List.getElem?_map, hodd]; rfl), ?_⟩
    refine nx_norm (σ' := [some (.int c), some (.ref pl), some (.ref tl), some (.str name), some (.str odd), none, none, none, none, none, none, none, none]) rfl ?_
    -- a, b, less
    refine ⟨_, rfl, _, rfl, _, _, rfl, rfl, ⟨by decide, by decide⟩, _, _, rfl, rfl, (by show (0 : Int) < 3; decide), pl, _, _, _, rfl, rfl, W.hp, at_of hja ha, ?_⟩
    refine nx_norm (σ' := [some (.int c), some (.ref pl), some (.ref tl), some (.str name), some (.str odd), some (.str a), none, none, none, none, none, none, none]) rfl ?_
    refine ⟨_, rfl, _, rfl, _, _, rfl, rfl, ⟨by decide, by decide⟩, _, _, rfl, rfl, _, _, rfl, rfl, (by show (0 : Int) < 3; decide), pl, _, _, _, rfl, rfl, W.hp, at_of hjb hb, ?_⟩
    refine nx_norm (σ' := [some (.int c), some (.ref pl), some (.ref tl), some (.str name), some (.str odd), some (.str a), some (.str b), none, none, none, none, none, none]) rfl ?_
    refine ⟨_, rfl, _, _, rfl, rfl, ⟨by decide, by decide⟩, _, _, rfl, rfl, ⟨by decide, by decide, by decide⟩, _, _, rfl, rfl, (by show (0 : Int) < 10 ^ (30 : Int).toNat; decide +kernel), _, _, rfl, rfl, ?_⟩
    dsimp only
    rw [← hless]
    refine nx_norm (σ' := [some (.int c), some (.ref pl), some (.ref tl), some (.str name), some (.str odd), some (.str a), some (.str b), some (.int less), none, none, none, none, none]) rfl ?_
    -- strange
    refine ⟨_, rfl, _, _, rfl, rfl, a_len, (by show _ ≤ sizeLine; exact z1000 (by simp)), fun q2 hq2 => ?_⟩
    have s2 : Same H1 (upd H1 q2 (.lst [.str "nowhere", .str "X", .str "", .str (a ++ "a")])) := Same.new hq2
    have e2 : upd H1 q2 (.lst [.str "nowhere", .str "X", .str "", .str (a ++ "a")]) q2 = some (.lst [.str "nowhere", .str "X", .str "", .str (a ++ "a")]) := upd_same
    generalize upd H1 q2 (.lst [.str "nowhere", .str "X", .str "", .str (a ++ "a")]) = H2 at s2 e2 ⊢
    have sA : Same H H2 := sA.trans s2
    have W := W.same s2
    refine ⟨_, rfl, _, _, rfl, rfl, ⟨by decide, by decide⟩, _, _, rfl, rfl, (by show (0 : Int) < 4; decide), q2, _, _, _, rfl, rfl, SqL.of e2, at_of hjs (show (([("nowhere" : Str), "X", "", a ++ "a"] : List Str).map V.str)[js]? = some (.str strange) by rw [List.getElem?_map, hstr]; rfl), ?_⟩
    refine nx_norm (σ' := [some (.int c), some (.ref pl), some (.ref tl), some (.str name), some (.str odd), some (.str a), some (.str b), some (.int less), some (.str strange), none, none, none, none]) rfl ?_
    -- the claim
    refine ⟨_, rfl, (by show _ ≤ sizeLine; exact z1000 (by simp)), fun t3 ht3 => ?_⟩
    have s3 : Same H2 (upd H2 t3 (.tup [.str "to", .str a])) := Same.new ht3
    have e3 : upd H2 t3 (.tup [.str "to", .str a]) t3 = some (.tup [.str "to", .str a]) := upd_same
    generalize upd H2 t3 (.tup [.str "to", .str a]) = H3 at s3 e3 ⊢
    have sA : Same H H3 := sA.trans s3
    have W := W.same s3
    refine ⟨_, rfl, (by show _ ≤ sizeLine; exact z1000 (by simp)), fun t4 ht4 => ?_⟩
    have s4 : Same H3 (upd H3 t4 (.tup [.str "way", .str "X", .str strange])) := Same.new ht4
    have e4 : upd H3 t4 (.tup [.str "way", .str "X", .str strange]) t4 = some (.tup [.str "way", .str "X", .str strange]) := upd_same
    generalize upd H3 t4 (.tup [.str "way", .str "X", .str strange]) = H4 at s4 e4 ⊢
    have sA : Same H H4 := sA.trans s4
    have W := W.same s4
    refine ⟨_, rfl, (by show _ ≤ sizeLine; exact z1000 (by simp)), fun t5 ht5 => ?_⟩
    have s5 : Same H4 (upd H4 t5 (.tup [.str "way", .str "somewhere", .str b])) := Same.new ht5
    have e5 : upd H4 t5 (.tup [.str "way", .str "somewhere", .str b]) t5 = some (.tup [.str "way", .str "somewhere", .str b]) := upd_same
    generalize upd H4 t5 (.tup [.str "way", .str "somewhere", .str b]) = H5 at s5 e5 ⊢
    have sA : Same H H5 := sA.trans s5
    have W := W.same s5
    refine ⟨(by show _ ≤ sizeLine; exact z1000 (by simp)), fun t6 ht6 => ?_⟩
    have s6 : Same H5 (upd H5 t6 (.tup [.str "or", .ref t4, .ref t5])) := Same.new ht6
    have e6 : upd H5 t6 (.tup [.str "or", .ref t4, .ref t5]) t6 = some (.tup [.str "or", .ref t4, .ref t5]) := upd_same
    generalize upd H5 t6 (.tup [.str "or", .ref t4, .ref t5]) = H6 at s6 e6 ⊢
    have sA : Same H H6 := sA.trans s6
    have W := W.same s6
    refine ⟨(by show _ ≤ sizeLine; exact z1000 (by simp)), fun t7 ht7 => ?_⟩
    have s7 : Same H6 (upd H6 t7 (.tup [.str "each", .str "X", .ref t3, .ref t6])) := Same.new ht7
    have e7 : upd H6 t7 (.tup [.str "each", .str "X", .ref t3, .ref t6]) t7 = some (.tup [.str "each", .str "X", .ref t3, .ref t6]) := upd_same
    generalize upd H6 t7 (.tup [.str "each", .str "X", .ref t3, .ref t6]) = H7 at s7 e7 ⊢
    have sA : Same H H7 := sA.trans s7
    have W := W.same s7
    have hc : Dp K H7 (.ref t7) (cl1 a b strange).d := .tup (xs := [.str "each", .str "X", .ref t3, .ref t6]) (SqT.of (e7)) (.cons (.str _) (.cons (.str _) (.cons (.tup (xs := [.str "to", .str a]) (SqT.of (s7 _ _ (s6 _ _ (s5 _ _ (s4 _ _ (e3)))))) (.cons (.str _) (.cons (.str _) .nil))) (.cons (.tup (xs := [.str "or", .ref t4, .ref t5]) (SqT.of (s7 _ _ (e6))) (.cons (.str _)
      (.cons (.tup (xs := [.str "way", .str "X", .str strange]) (SqT.of (s7 _ _ (s6 _ _ (s5 _ _ (e4))))) (.cons (.str _) (.cons (.str _) (.cons (.str _) .nil)))) (.cons (.tup (xs := [.str "way", .str "somewhere", .str b]) (SqT.of (s7 _ _ (s6 _ _ (e5)))) (.cons (.str _) (.cons (.str _) (.cons (.str _) .nil)))) .nil)))) .nil))))
    refine nx_norm (σ' := [some (.int c), some (.ref pl), some (.ref tl), some (.str name), some (.str odd), some (.str a), some (.str b), some (.int less), some (.str strange), some (.ref t7), none, none, none]) rfl ?_
    -- first
    refine ⟨_, rfl, (by show _ ≤ sizeLine; exact z1000 (by simp)), fun q8 hq8 => ?_⟩
    have s8 : Same H7 (upd H7 q8 (.lst [.str strange, .str "somewhere"])) := Same.new hq8
    have e8 : upd H7 q8 (.lst [.str strange, .str "somewhere"]) q8 = some (.lst [.str strange, .str "somewhere"]) := upd_same
    generalize upd H7 q8 (.lst [.str strange, .str "somewhere"]) = H8 at s8 e8 ⊢
    have sA : Same H H8 := sA.trans s8
    have W := W.same s8
    have hc := Dp.same s8 _ _ hc
    refine ⟨_, rfl, rfl, .inr ⟨_, rfl, q8, _, _, _, rfl, rfl, SqL.of e8, at_of (first_ix strange) (first_at strange), ?_⟩⟩
    refine nx_norm (σ' := [some (.int c), some (.ref pl), some (.ref tl), some (.str name), some (.str odd), some (.str a), some (.str b), some (.int less), some (.str strange), some (.ref t7), some (.str (firstOf strange)), none, none]) rfl ?_
    -- group 0
    refine ⟨_, rfl, (by show _ ≤ sizeLine; exact z1000 (by simp)), fun t9 ht9 => ?_⟩
    have s9 : Same H8 (upd H8 t9 (.tup [.str "place", .str odd, .str "name"])) := Same.new ht9
    have e9 : upd H8 t9 (.tup [.str "place", .str odd, .str "name"]) t9 = some (.tup [.str "place", .str odd, .str "name"]) := upd_same
    generalize upd H8 t9 (.tup [.str "place", .str odd, .str "name"]) = H9 at s9 e9 ⊢
    have sA : Same H H9 := sA.trans s9
    have W := W.same s9
    have hc := Dp.same s9 _ _ hc
    have hN : DpAll K H9 [.ref t9] [dW (Deed.place odd, "name")] := .cons (.tup (xs := [.str "place", .str odd, .str "name"]) (SqT.of e9) (.cons (.str _) (.cons (.str _) (.cons (.str _) .nil)))) .nil
    refine ⟨_, rfl, (by show _ ≤ sizeLine; exact z1000 (by simp)), fun t10 ht10 => ?_⟩
    have s10 : Same H9 (upd H9 t10 (.tup [.str "place", .str a, .str "twice"])) := Same.new ht10
    have e10 : upd H9 t10 (.tup [.str "place", .str a, .str "twice"]) t10 = some (.tup [.str "place", .str a, .str "twice"]) := upd_same
    generalize upd H9 t10 (.tup [.str "place", .str a, .str "twice"]) = H10 at s10 e10 ⊢
    have sA : Same H H10 := sA.trans s10
    have W := W.same s10
    have hc := Dp.same s10 _ _ hc
    have hN : DpAll K H10 ([.ref t9] ++ [.ref t10]) ([dW (Deed.place odd, "name")] ++ [dW (Deed.place a, "twice")]) := (DpAll.same s10 _ _ hN).append (.cons (.tup (xs := [.str "place", .str a, .str "twice"]) (SqT.of e10) (.cons (.str _) (.cons (.str _) (.cons (.str _) .nil)))) .nil)
    refine ⟨_, rfl, _, rfl, _, rfl, (by show _ ≤ sizeLine; exact z1000 (by simp)), fun t11 ht11 => ?_⟩
    have s11 : Same H10 (upd H10 t11 (.tup [.str "tie", .str odd, .str a, .str a, .int 0, .int 1, .str "name"])) := Same.new ht11
    have e11 : upd H10 t11 (.tup [.str "tie", .str odd, .str a, .str a, .int 0, .int 1, .str "name"]) t11 = some (.tup [.str "tie", .str odd, .str a, .str a, .int 0, .int 1, .str "name"]) := upd_same
    generalize upd H10 t11 (.tup [.str "tie", .str odd, .str a, .str a, .int 0, .int 1, .str "name"]) = H11 at s11 e11 ⊢
    have sA : Same H H11 := sA.trans s11
    have W := W.same s11
    have hc := Dp.same s11 _ _ hc
    have hN : DpAll K H11 ([.ref t9, .ref t10] ++ [.ref t11]) ([dW (Deed.place odd, "name"), dW (Deed.place a, "twice")] ++ [dW (Deed.tie odd a a 0 1, "name")]) := (DpAll.same s11 _ _ hN).append (.cons (.tup (xs := [.str "tie", .str odd, .str a, .str a, .int 0, .int 1, .str "name"]) (SqT.of e11) (.cons (.str _) (.cons (.str _) (.cons (.str _) (.cons (.str _) (.cons (.int _) (.cons (.int _) (.cons (.str _) .nil)))))))) .nil)
    refine ⟨(by show _ ≤ sizeLine; exact z1000 (by simp)), fun q12 hq12 => ?_⟩
    have s12 : Same H11 (upd H11 q12 (.lst [.ref t9, .ref t10, .ref t11])) := Same.new hq12
    have e12 : upd H11 q12 (.lst [.ref t9, .ref t10, .ref t11]) q12 = some (.lst [.ref t9, .ref t10, .ref t11]) := upd_same
    generalize upd H11 q12 (.lst [.ref t9, .ref t10, .ref t11]) = H12 at s12 e12 ⊢
    have sA : Same H H12 := sA.trans s12
    have W := W.same s12
    have hc := Dp.same s12 _ _ hc
    have hD : DpAll K H12 [.ref t9, .ref t10, .ref t11] [dW (Deed.place odd, "name"), dW (Deed.place a, "twice"), dW (Deed.tie odd a a 0 1, "name")] := DpAll.same s12 _ _ hN
    have hr := e12
    have lx : [V.ref t9, V.ref t10, V.ref t11].length = 3 := rfl
    generalize [V.ref t9, V.ref t10, V.ref t11] = xs at hr hD lx
    refine nx_norm (σ' := [some (.int c), some (.ref pl), some (.ref tl), some (.str name), some (.str odd), some (.str a), some (.str b), some (.int less), some (.str strange), some (.ref t7), some (.str (firstOf strange)), some (.ref q12), none]) rfl ?_
    -- group 1
    refine ⟨_, rfl, _, rfl, _, rfl, (by show _ ≤ sizeLine; exact z1000 (by simp)), fun t13 ht13 => ?_⟩
    have s13 : Same H12 (upd H12 t13 (.tup [.str "tie", .str "fresh", .str odd, .str a, .int 1, .int 1, .str "name"])) := Same.new ht13
    have e13 : upd H12 t13 (.tup [.str "tie", .str "fresh", .str odd, .str a, .int 1, .int 1, .str "name"]) t13 = some (.tup [.str "tie", .str "fresh", .str odd, .str a, .int 1, .int 1, .str "name"]) := upd_same
    generalize upd H12 t13 (.tup [.str "tie", .str "fresh", .str odd, .str a, .int 1, .int 1, .str "name"]) = H13 at s13 e13 ⊢
    have sA : Same H H13 := sA.trans s13
    have W := W.same s13
    have hc := Dp.same s13 _ _ hc
    have hr := s13 _ _ hr
    have hD := DpAll.same s13 _ _ hD
    have hN : DpAll K H13 [.ref t13] [dW (Deed.tie "fresh" odd a 1 1, "name")] := .cons (.tup (xs := [.str "tie", .str "fresh", .str odd, .str a, .int 1, .int 1, .str "name"]) (SqT.of e13) (.cons (.str _) (.cons (.str _) (.cons (.str _) (.cons (.str _) (.cons (.int _) (.cons (.int _) (.cons (.str _) .nil)))))))) .nil
    refine ⟨_, rfl, tl, _, 0, _, rfl, rfl, W.ht, at_of (j := 0) rfl rfl, _, rfl, _, rfl, _, rfl, (by show _ ≤ sizeLine; exact z1000 (by simp)), fun t14 ht14 => ?_⟩
    have s14 : Same H13 (upd H13 t14 (.tup [.str "tie", .str t0, .str a, .str a, .int less, .int 0, .str "twice"])) := Same.new ht14
    have e14 : upd H13 t14 (.tup [.str "tie", .str t0, .str a, .str a, .int less, .int 0, .str "twice"]) t14 = some (.tup [.str "tie", .str t0, .str a, .str a, .int less, .int 0, .str "twice"]) := upd_same
    generalize upd H13 t14 (.tup [.str "tie", .str t0, .str a, .str a, .int less, .int 0, .str "twice"]) = H14 at s14 e14 ⊢
    have sA : Same H H14 := sA.trans s14
    have W := W.same s14
    have hc := Dp.same s14 _ _ hc
    have hr := s14 _ _ hr
    have hD := DpAll.same s14 _ _ hD
    have hN : DpAll K H14 ([.ref t13] ++ [.ref t14]) ([dW (Deed.tie "fresh" odd a 1 1, "name")] ++ [dW (Deed.tie t0 a a less 0, "twice")]) := (DpAll.same s14 _ _ hN).append (.cons (.tup (xs := [.str "tie", .str t0, .str a, .str a, .int less, .int 0, .str "twice"]) (SqT.of e14) (.cons (.str _) (.cons (.str _) (.cons (.str _) (.cons (.str _) (.cons (.int _) (.cons (.int _) (.cons (.str _) .nil)))))))) .nil)
    refine ⟨(by show _ ≤ sizeLine; exact z1000 (by simp)), fun q15 hq15 => ?_⟩
    have s15 : Same H14 (upd H14 q15 (.lst [.ref t13, .ref t14])) := Same.new hq15
    have e15 : upd H14 q15 (.lst [.ref t13, .ref t14]) q15 = some (.lst [.ref t13, .ref t14]) := upd_same
    generalize upd H14 q15 (.lst [.ref t13, .ref t14]) = H15 at s15 e15 ⊢
    have sA : Same H H15 := sA.trans s15
    have W := W.same s15
    have hc := Dp.same s15 _ _ hc
    have hr := s15 _ _ hr
    have hD : DpAll K H15 (xs ++ [V.ref t13, V.ref t14]) ([dW (Deed.place odd, "name"), dW (Deed.place a, "twice"), dW (Deed.tie odd a a 0 1, "name")] ++ [dW (Deed.tie "fresh" odd a 1 1, "name"), dW (Deed.tie t0 a a less 0, "twice")]) := (DpAll.same s15 _ _ hD).append (DpAll.same s15 _ _ hN)
    refine ⟨q12, q15, _, _, rfl, rfl, hr, e15, (by rw [lx]; show _ ≤ sizeLine; exact z1000 (by simp)), fun r16 hr16 => ?_⟩
    have hDb := hD
    have Wb := W
    have hcb := hc
    have sAb := sA
    have s16 : Same H15 (upd H15 r16 (.lst (xs ++ [.ref t13, .ref t14]))) := Same.new hr16
    have e16 : upd H15 r16 (.lst (xs ++ [.ref t13, .ref t14])) r16 = some (.lst (xs ++ [.ref t13, .ref t14])) := upd_same
    generalize upd H15 r16 (.lst (xs ++ [.ref t13, .ref t14])) = H16 at s16 e16 ⊢
    have sA : Same H H16 := sA.trans s16
    have W := W.same s16
    have hc := Dp.same s16 _ _ hc
    have hD := DpAll.same s16 _ _ hD
    have hr := e16
    have lx : (xs ++ [V.ref t13, V.ref t14]).length = 5 := by rw [List.length_append, lx]; rfl
    generalize xs ++ [V.ref t13, V.ref t14] = xs at hr hD hDb lx ⊢
    refine nx_norm (σ' := [some (.int c), some (.ref pl), some (.ref tl), some (.str name), some (.str odd), some (.str a), some (.str b), some (.int less), some (.str strange), some (.ref t7), some (.str (firstOf strange)), some (.ref r16), none]) rfl ?_
    -- group 2
    refine ⟨_, rfl, _, rfl, _, rfl, _, rfl, (by show _ ≤ sizeLine; exact z1000 (by simp)), fun t17 ht17 => ?_⟩
    have s17 : Same H16 (upd H16 t17 (.tup [.str "tie", .str "fresh", .str a, .str a, .int less, .int 0, .str "same"])) := Same.new ht17
    have e17 : upd H16 t17 (.tup [.str "tie", .str "fresh", .str a, .str a, .int less, .int 0, .str "same"]) t17 = some (.tup [.str "tie", .str "fresh", .str a, .str a, .int less, .int 0, .str "same"]) := upd_same
    generalize upd H16 t17 (.tup [.str "tie", .str "fresh", .str a, .str a, .int less, .int 0, .str "same"]) = H17 at s17 e17 ⊢
    have sA : Same H H17 := sA.trans s17
    have W := W.same s17
    have hc := Dp.same s17 _ _ hc
    have hr := s17 _ _ hr
    have hD := DpAll.same s17 _ _ hD
    have hN : DpAll K H17 [.ref t17] [dW (Deed.tie "fresh" a a less 0, "same")] := .cons (.tup (xs := [.str "tie", .str "fresh", .str a, .str a, .int less, .int 0, .str "same"]) (SqT.of e17) (.cons (.str _) (.cons (.str _) (.cons (.str _) (.cons (.str _) (.cons (.int _) (.cons (.int _) (.cons (.str _) .nil)))))))) .nil
    refine ⟨_, rfl, _, rfl, _, rfl, (by show _ ≤ sizeLine; exact z1000 (by simp)), fun t18 ht18 => ?_⟩
    have s18 : Same H17 (upd H17 t18 (.tup [.str "tie", .str "fresh", .str a, .str b, .int less, .int 0, .str "width"])) := Same.new ht18
    have e18 : upd H17 t18 (.tup [.str "tie", .str "fresh", .str a, .str b, .int less, .int 0, .str "width"]) t18 = some (.tup [.str "tie", .str "fresh", .str a, .str b, .int less, .int 0, .str "width"]) := upd_same
    generalize upd H17 t18 (.tup [.str "tie", .str "fresh", .str a, .str b, .int less, .int 0, .str "width"]) = H18 at s18 e18 ⊢
    have sA : Same H H18 := sA.trans s18
    have W := W.same s18
    have hc := Dp.same s18 _ _ hc
    have hr := s18 _ _ hr
    have hD := DpAll.same s18 _ _ hD
    have hN : DpAll K H18 ([.ref t17] ++ [.ref t18]) ([dW (Deed.tie "fresh" a a less 0, "same")] ++ [dW (Deed.tie "fresh" a b less 0, "width")]) := (DpAll.same s18 _ _ hN).append (.cons (.tup (xs := [.str "tie", .str "fresh", .str a, .str b, .int less, .int 0, .str "width"]) (SqT.of e18) (.cons (.str _) (.cons (.str _) (.cons (.str _) (.cons (.str _) (.cons (.int _) (.cons (.int _) (.cons (.str _) .nil)))))))) .nil)
    refine ⟨(by show _ ≤ sizeLine; exact z1000 (by simp)), fun q19 hq19 => ?_⟩
    have s19 : Same H18 (upd H18 q19 (.lst [.ref t17, .ref t18])) := Same.new hq19
    have e19 : upd H18 q19 (.lst [.ref t17, .ref t18]) q19 = some (.lst [.ref t17, .ref t18]) := upd_same
    generalize upd H18 q19 (.lst [.ref t17, .ref t18]) = H19 at s19 e19 ⊢
    have sA : Same H H19 := sA.trans s19
    have W := W.same s19
    have hc := Dp.same s19 _ _ hc
    have hr := s19 _ _ hr
    have hD : DpAll K H19 (xs ++ [V.ref t17, V.ref t18]) (([dW (Deed.place odd, "name"), dW (Deed.place a, "twice"), dW (Deed.tie odd a a 0 1, "name")] ++ [dW (Deed.tie "fresh" odd a 1 1, "name"), dW (Deed.tie t0 a a less 0, "twice")]) ++ [dW (Deed.tie "fresh" a a less 0, "same"), dW (Deed.tie "fresh" a b less 0, "width")]) := (DpAll.same s19 _ _ hD).append (DpAll.same s19 _ _ hN)
    refine ⟨r16, q19, _, _, rfl, rfl, hr, e19, (by rw [lx]; show _ ≤ sizeLine; exact z1000 (by simp)), fun r20 hr20 => ?_⟩
    have hDb := hD
    have Wb := W
    have hcb := hc
    have sAb := sA
    have s20 : Same H19 (upd H19 r20 (.lst (xs ++ [.ref t17, .ref t18]))) := Same.new hr20
    have e20 : upd H19 r20 (.lst (xs ++ [.ref t17, .ref t18])) r20 = some (.lst (xs ++ [.ref t17, .ref t18])) := upd_same
    generalize upd H19 r20 (.lst (xs ++ [.ref t17, .ref t18])) = H20 at s20 e20 ⊢
    have sA : Same H H20 := sA.trans s20
    have W := W.same s20
    have hc := Dp.same s20 _ _ hc
    have hD := DpAll.same s20 _ _ hD
    have hr := e20
    have lx : (xs ++ [V.ref t17, V.ref t18]).length = 7 := by rw [List.length_append, lx]; rfl
    generalize xs ++ [V.ref t17, V.ref t18] = xs at hr hD hDb lx ⊢
    refine nx_norm (σ' := [some (.int c), some (.ref pl), some (.ref tl), some (.str name), some (.str odd), some (.str a), some (.str b), some (.int less), some (.str strange), some (.ref t7), some (.str (firstOf strange)), some (.ref r20), none]) rfl ?_
    -- group 3
    refine ⟨_, rfl, (by show _ ≤ sizeLine; exact z1000 (by simp)), fun t21 ht21 => ?_⟩
    have s21 : Same H20 (upd H20 t21 (.tup [.str "cut", .str "fresh", .str "tie"])) := Same.new ht21
    have e21 : upd H20 t21 (.tup [.str "cut", .str "fresh", .str "tie"]) t21 = some (.tup [.str "cut", .str "fresh", .str "tie"]) := upd_same
    generalize upd H20 t21 (.tup [.str "cut", .str "fresh", .str "tie"]) = H21 at s21 e21 ⊢
    have sA : Same H H21 := sA.trans s21
    have W := W.same s21
    have hc := Dp.same s21 _ _ hc
    have hr := s21 _ _ hr
    have hD := DpAll.same s21 _ _ hD
    have hN : DpAll K H21 [.ref t21] [dW (Deed.cut "fresh", "tie")] := .cons (.tup (xs := [.str "cut", .str "fresh", .str "tie"]) (SqT.of e21) (.cons (.str _) (.cons (.str _) (.cons (.str _) .nil)))) .nil
    refine ⟨_, rfl, (by show _ ≤ sizeLine; exact z1000 (by simp)), fun t22 ht22 => ?_⟩
    have s22 : Same H21 (upd H21 t22 (.tup [.str "cut", .str odd, .str "tie"])) := Same.new ht22
    have e22 : upd H21 t22 (.tup [.str "cut", .str odd, .str "tie"]) t22 = some (.tup [.str "cut", .str odd, .str "tie"]) := upd_same
    generalize upd H21 t22 (.tup [.str "cut", .str odd, .str "tie"]) = H22 at s22 e22 ⊢
    have sA : Same H H22 := sA.trans s22
    have W := W.same s22
    have hc := Dp.same s22 _ _ hc
    have hr := s22 _ _ hr
    have hD := DpAll.same s22 _ _ hD
    have hN : DpAll K H22 ([.ref t21] ++ [.ref t22]) ([dW (Deed.cut "fresh", "tie")] ++ [dW (Deed.cut odd, "tie")]) := (DpAll.same s22 _ _ hN).append (.cons (.tup (xs := [.str "cut", .str odd, .str "tie"]) (SqT.of e22) (.cons (.str _) (.cons (.str _) (.cons (.str _) .nil)))) .nil)
    refine ⟨_, rfl, (by show _ ≤ sizeLine; exact z1000 (by simp)), fun t23 ht23 => ?_⟩
    have s23 : Same H22 (upd H22 t23 (.tup [.str "alter", .str "fresh", .int less, .int 0, .str "tie"])) := Same.new ht23
    have e23 : upd H22 t23 (.tup [.str "alter", .str "fresh", .int less, .int 0, .str "tie"]) t23 = some (.tup [.str "alter", .str "fresh", .int less, .int 0, .str "tie"]) := upd_same
    generalize upd H22 t23 (.tup [.str "alter", .str "fresh", .int less, .int 0, .str "tie"]) = H23 at s23 e23 ⊢
    have sA : Same H H23 := sA.trans s23
    have W := W.same s23
    have hc := Dp.same s23 _ _ hc
    have hr := s23 _ _ hr
    have hD := DpAll.same s23 _ _ hD
    have hN : DpAll K H23 ([.ref t21, .ref t22] ++ [.ref t23]) ([dW (Deed.cut "fresh", "tie"), dW (Deed.cut odd, "tie")] ++ [dW (Deed.alter "fresh" less 0, "tie")]) := (DpAll.same s23 _ _ hN).append (.cons (.tup (xs := [.str "alter", .str "fresh", .int less, .int 0, .str "tie"]) (SqT.of e23) (.cons (.str _) (.cons (.str _) (.cons (.int _) (.cons (.int _) (.cons (.str _) .nil)))))) .nil)
    refine ⟨(by show _ ≤ sizeLine; exact z1000 (by simp)), fun q24 hq24 => ?_⟩
    have s24 : Same H23 (upd H23 q24 (.lst [.ref t21, .ref t22, .ref t23])) := Same.new hq24
    have e24 : upd H23 q24 (.lst [.ref t21, .ref t22, .ref t23]) q24 = some (.lst [.ref t21, .ref t22, .ref t23]) := upd_same
    generalize upd H23 q24 (.lst [.ref t21, .ref t22, .ref t23]) = H24 at s24 e24 ⊢
    have sA : Same H H24 := sA.trans s24
    have W := W.same s24
    have hc := Dp.same s24 _ _ hc
    have hr := s24 _ _ hr
    have hD : DpAll K H24 (xs ++ [V.ref t21, V.ref t22, V.ref t23]) ((([dW (Deed.place odd, "name"), dW (Deed.place a, "twice"), dW (Deed.tie odd a a 0 1, "name")] ++ [dW (Deed.tie "fresh" odd a 1 1, "name"), dW (Deed.tie t0 a a less 0, "twice")]) ++ [dW (Deed.tie "fresh" a a less 0, "same"), dW (Deed.tie "fresh" a b less 0, "width")]) ++ [dW (Deed.cut "fresh", "tie"), dW (Deed.cut odd, "tie"), dW (Deed.alter "fresh" less 0, "tie")]) := (DpAll.same s24 _ _ hD).append (DpAll.same s24 _ _ hN)
    refine ⟨r20, q24, _, _, rfl, rfl, hr, e24, (by rw [lx]; show _ ≤ sizeLine; exact z1000 (by simp)), fun r25 hr25 => ?_⟩
    have hDb := hD
    have Wb := W
    have hcb := hc
    have sAb := sA
    have s25 : Same H24 (upd H24 r25 (.lst (xs ++ [.ref t21, .ref t22, .ref t23]))) := Same.new hr25
    have e25 : upd H24 r25 (.lst (xs ++ [.ref t21, .ref t22, .ref t23])) r25 = some (.lst (xs ++ [.ref t21, .ref t22, .ref t23])) := upd_same
    generalize upd H24 r25 (.lst (xs ++ [.ref t21, .ref t22, .ref t23])) = H25 at s25 e25 ⊢
    have sA : Same H H25 := sA.trans s25
    have W := W.same s25
    have hc := Dp.same s25 _ _ hc
    have hD := DpAll.same s25 _ _ hD
    have hr := e25
    have lx : (xs ++ [V.ref t21, V.ref t22, V.ref t23]).length = 10 := by rw [List.length_append, lx]; rfl
    generalize xs ++ [V.ref t21, V.ref t22, V.ref t23] = xs at hr hD hDb lx ⊢
    refine nx_norm (σ' := [some (.int c), some (.ref pl), some (.ref tl), some (.str name), some (.str odd), some (.str a), some (.str b), some (.int less), some (.str strange), some (.ref t7), some (.str (firstOf strange)), some (.ref r25), none]) rfl ?_
    -- group 4
    refine ⟨_, rfl, _, rfl, tl, _, 1, _, rfl, rfl, W.ht, at_of (j := 1) rfl rfl, _, rfl, (by show _ ≤ sizeLine; exact z1000 (by simp)), fun t26 ht26 => ?_⟩
    have s26 : Same H25 (upd H25 t26 (.tup [.str "alter", .str t1, .int less, .int 5, .str "width"])) := Same.new ht26
    have e26 : upd H25 t26 (.tup [.str "alter", .str t1, .int less, .int 5, .str "width"]) t26 = some (.tup [.str "alter", .str t1, .int less, .int 5, .str "width"]) := upd_same
    generalize upd H25 t26 (.tup [.str "alter", .str t1, .int less, .int 5, .str "width"]) = H26 at s26 e26 ⊢
    have sA : Same H H26 := sA.trans s26
    have W := W.same s26
    have hc := Dp.same s26 _ _ hc
    have hr := s26 _ _ hr
    have hD := DpAll.same s26 _ _ hD
    have hN : DpAll K H26 [.ref t26] [dW (Deed.alter t1 less 5, "width")] := .cons (.tup (xs := [.str "alter", .str t1, .int less, .int 5, .str "width"]) (SqT.of e26) (.cons (.str _) (.cons (.str _) (.cons (.int _) (.cons (.int _) (.cons (.str _) .nil)))))) .nil
    refine ⟨_, rfl, _, rfl, (by show _ ≤ sizeLine; exact z1000 (by simp)), fun t27 ht27 => ?_⟩
    have s27 : Same H26 (upd H26 t27 (.tup [.str "state", .str odd, .ref t7, .str "name"])) := Same.new ht27
    have e27 : upd H26 t27 (.tup [.str "state", .str odd, .ref t7, .str "name"]) t27 = some (.tup [.str "state", .str odd, .ref t7, .str "name"]) := upd_same
    generalize upd H26 t27 (.tup [.str "state", .str odd, .ref t7, .str "name"]) = H27 at s27 e27 ⊢
    have sA : Same H H27 := sA.trans s27
    have W := W.same s27
    have hc := Dp.same s27 _ _ hc
    have hr := s27 _ _ hr
    have hD := DpAll.same s27 _ _ hD
    have hN : DpAll K H27 ([.ref t26] ++ [.ref t27]) ([dW (Deed.alter t1 less 5, "width")] ++ [dW (Deed.state odd (cl1 a b strange), "name")]) := (DpAll.same s27 _ _ hN).append (.cons (.tup (xs := [.str "state", .str odd, .ref t7, .str "name"]) (SqT.of e27) (.cons (.str _) (.cons (.str _) (.cons (hc) (.cons (.str _) .nil))))) .nil)
    refine ⟨_, rfl, _, rfl, (by show _ ≤ sizeLine; exact z1000 (by simp)), fun t28 ht28 => ?_⟩
    have s28 : Same H27 (upd H27 t28 (.tup [.str "state", .str name, .ref t7, .str "twice"])) := Same.new ht28
    have e28 : upd H27 t28 (.tup [.str "state", .str name, .ref t7, .str "twice"]) t28 = some (.tup [.str "state", .str name, .ref t7, .str "twice"]) := upd_same
    generalize upd H27 t28 (.tup [.str "state", .str name, .ref t7, .str "twice"]) = H28 at s28 e28 ⊢
    have sA : Same H H28 := sA.trans s28
    have W := W.same s28
    have hc := Dp.same s28 _ _ hc
    have hr := s28 _ _ hr
    have hD := DpAll.same s28 _ _ hD
    have hN : DpAll K H28 ([.ref t26, .ref t27] ++ [.ref t28]) ([dW (Deed.alter t1 less 5, "width"), dW (Deed.state odd (cl1 a b strange), "name")] ++ [dW (Deed.state name (cl1 a b strange), "twice")]) := (DpAll.same s28 _ _ hN).append (.cons (.tup (xs := [.str "state", .str name, .ref t7, .str "twice"]) (SqT.of e28) (.cons (.str _) (.cons (.str _) (.cons (hc) (.cons (.str _) .nil))))) .nil)
    refine ⟨(by show _ ≤ sizeLine; exact z1000 (by simp)), fun q29 hq29 => ?_⟩
    have s29 : Same H28 (upd H28 q29 (.lst [.ref t26, .ref t27, .ref t28])) := Same.new hq29
    have e29 : upd H28 q29 (.lst [.ref t26, .ref t27, .ref t28]) q29 = some (.lst [.ref t26, .ref t27, .ref t28]) := upd_same
    generalize upd H28 q29 (.lst [.ref t26, .ref t27, .ref t28]) = H29 at s29 e29 ⊢
    have sA : Same H H29 := sA.trans s29
    have W := W.same s29
    have hc := Dp.same s29 _ _ hc
    have hr := s29 _ _ hr
    have hD : DpAll K H29 (xs ++ [V.ref t26, V.ref t27, V.ref t28]) (((([dW (Deed.place odd, "name"), dW (Deed.place a, "twice"), dW (Deed.tie odd a a 0 1, "name")] ++ [dW (Deed.tie "fresh" odd a 1 1, "name"), dW (Deed.tie t0 a a less 0, "twice")]) ++ [dW (Deed.tie "fresh" a a less 0, "same"), dW (Deed.tie "fresh" a b less 0, "width")]) ++ [dW (Deed.cut "fresh", "tie"), dW (Deed.cut odd, "tie"), dW (Deed.alter "fresh" less 0, "tie")]) ++ [dW (Deed.alter t1 less 5, "width"), dW (Deed.state odd (cl1 a b strange), "name"), dW (Deed.state name (cl1 a b strange), "twice")]) := (DpAll.same s29 _ _ hD).append (DpAll.same s29 _ _ hN)
    refine ⟨r25, q29, _, _, rfl, rfl, hr, e29, (by rw [lx]; show _ ≤ sizeLine; exact z1000 (by simp)), fun r30 hr30 => ?_⟩
    have hDb := hD
    have Wb := W
    have hcb := hc
    have sAb := sA
    have s30 : Same H29 (upd H29 r30 (.lst (xs ++ [.ref t26, .ref t27, .ref t28]))) := Same.new hr30
    have e30 : upd H29 r30 (.lst (xs ++ [.ref t26, .ref t27, .ref t28])) r30 = some (.lst (xs ++ [.ref t26, .ref t27, .ref t28])) := upd_same
    generalize upd H29 r30 (.lst (xs ++ [.ref t26, .ref t27, .ref t28])) = H30 at s30 e30 ⊢
    have sA : Same H H30 := sA.trans s30
    have W := W.same s30
    have hc := Dp.same s30 _ _ hc
    have hD := DpAll.same s30 _ _ hD
    have hr := e30
    have lx : (xs ++ [V.ref t26, V.ref t27, V.ref t28]).length = 13 := by rw [List.length_append, lx]; rfl
    generalize xs ++ [V.ref t26, V.ref t27, V.ref t28] = xs at hr hD hDb lx ⊢
    refine nx_norm (σ' := [some (.int c), some (.ref pl), some (.ref tl), some (.str name), some (.str odd), some (.str a), some (.str b), some (.int less), some (.str strange), some (.ref t7), some (.str (firstOf strange)), some (.ref r30), none]) rfl ?_
    -- group 5
    refine ⟨_, rfl, _, rfl, _, rfl, _, _, rfl, rfl, pf_len, (by show _ ≤ sizeLine; exact z1000 (by simp)), fun t31 ht31 => ?_⟩
    have s31 : Same H30 (upd H30 t31 (.tup [.str "state", .str "fresh", .ref t7, .str (("place " : Str) ++ firstOf strange)])) := Same.new ht31
    have e31 : upd H30 t31 (.tup [.str "state", .str "fresh", .ref t7, .str (("place " : Str) ++ firstOf strange)]) t31 = some (.tup [.str "state", .str "fresh", .ref t7, .str (("place " : Str) ++ firstOf strange)]) := upd_same
    generalize upd H30 t31 (.tup [.str "state", .str "fresh", .ref t7, .str (("place " : Str) ++ firstOf strange)]) = H31 at s31 e31 ⊢
    have sA : Same H H31 := sA.trans s31
    have W := W.same s31
    have hc := Dp.same s31 _ _ hc
    have hr := s31 _ _ hr
    have hD := DpAll.same s31 _ _ hD
    have hN : DpAll K H31 [.ref t31] [dW (Deed.state "fresh" (cl1 a b strange), ("place " : Str) ++ firstOf strange)] := .cons (.tup (xs := [.str "state", .str "fresh", .ref t7, .str (("place " : Str) ++ firstOf strange)]) (SqT.of e31) (.cons (.str _) (.cons (.str _) (.cons (hc) (.cons (.str _) .nil))))) .nil
    refine ⟨(by show _ ≤ sizeLine; exact z1000 (by simp)), fun t32 ht32 => ?_⟩
    have s32 : Same H31 (upd H31 t32 (.tup [.str "forget", .str "fresh", .str "claim"])) := Same.new ht32
    have e32 : upd H31 t32 (.tup [.str "forget", .str "fresh", .str "claim"]) t32 = some (.tup [.str "forget", .str "fresh", .str "claim"]) := upd_same
    generalize upd H31 t32 (.tup [.str "forget", .str "fresh", .str "claim"]) = H32 at s32 e32 ⊢
    have sA : Same H H32 := sA.trans s32
    have W := W.same s32
    have hc := Dp.same s32 _ _ hc
    have hr := s32 _ _ hr
    have hD := DpAll.same s32 _ _ hD
    have hN : DpAll K H32 ([.ref t31] ++ [.ref t32]) ([dW (Deed.state "fresh" (cl1 a b strange), ("place " : Str) ++ firstOf strange)] ++ [dW (Deed.forget "fresh", "claim")]) := (DpAll.same s32 _ _ hN).append (.cons (.tup (xs := [.str "forget", .str "fresh", .str "claim"]) (SqT.of e32) (.cons (.str _) (.cons (.str _) (.cons (.str _) .nil)))) .nil)
    refine ⟨_, rfl, (by show _ ≤ sizeLine; exact z1000 (by simp)), fun t33 ht33 => ?_⟩
    have s33 : Same H32 (upd H32 t33 (.tup [.str "forget", .str odd, .str "claim"])) := Same.new ht33
    have e33 : upd H32 t33 (.tup [.str "forget", .str odd, .str "claim"]) t33 = some (.tup [.str "forget", .str odd, .str "claim"]) := upd_same
    generalize upd H32 t33 (.tup [.str "forget", .str odd, .str "claim"]) = H33 at s33 e33 ⊢
    have sA : Same H H33 := sA.trans s33
    have W := W.same s33
    have hc := Dp.same s33 _ _ hc
    have hr := s33 _ _ hr
    have hD := DpAll.same s33 _ _ hD
    have hN : DpAll K H33 ([.ref t31, .ref t32] ++ [.ref t33]) ([dW (Deed.state "fresh" (cl1 a b strange), ("place " : Str) ++ firstOf strange), dW (Deed.forget "fresh", "claim")] ++ [dW (Deed.forget odd, "claim")]) := (DpAll.same s33 _ _ hN).append (.cons (.tup (xs := [.str "forget", .str odd, .str "claim"]) (SqT.of e33) (.cons (.str _) (.cons (.str _) (.cons (.str _) .nil)))) .nil)
    refine ⟨(by show _ ≤ sizeLine; exact z1000 (by simp)), fun q34 hq34 => ?_⟩
    have s34 : Same H33 (upd H33 q34 (.lst [.ref t31, .ref t32, .ref t33])) := Same.new hq34
    have e34 : upd H33 q34 (.lst [.ref t31, .ref t32, .ref t33]) q34 = some (.lst [.ref t31, .ref t32, .ref t33]) := upd_same
    generalize upd H33 q34 (.lst [.ref t31, .ref t32, .ref t33]) = H34 at s34 e34 ⊢
    have sA : Same H H34 := sA.trans s34
    have W := W.same s34
    have hc := Dp.same s34 _ _ hc
    have hr := s34 _ _ hr
    have hD : DpAll K H34 (xs ++ [V.ref t31, V.ref t32, V.ref t33]) ((((([dW (Deed.place odd, "name"), dW (Deed.place a, "twice"), dW (Deed.tie odd a a 0 1, "name")] ++ [dW (Deed.tie "fresh" odd a 1 1, "name"), dW (Deed.tie t0 a a less 0, "twice")]) ++ [dW (Deed.tie "fresh" a a less 0, "same"), dW (Deed.tie "fresh" a b less 0, "width")]) ++ [dW (Deed.cut "fresh", "tie"), dW (Deed.cut odd, "tie"), dW (Deed.alter "fresh" less 0, "tie")]) ++ [dW (Deed.alter t1 less 5, "width"), dW (Deed.state odd (cl1 a b strange), "name"), dW (Deed.state name (cl1 a b strange), "twice")]) ++ [dW (Deed.state "fresh" (cl1 a b strange), ("place " : Str) ++ firstOf strange), dW (Deed.forget "fresh", "claim"), dW (Deed.forget odd, "claim")]) := (DpAll.same s34 _ _ hD).append (DpAll.same s34 _ _ hN)
    refine ⟨r30, q34, _, _, rfl, rfl, hr, e34, (by rw [lx]; show _ ≤ sizeLine; exact z1000 (by simp)), fun r35 hr35 => ?_⟩
    have hDb := hD
    have Wb := W
    have hcb := hc
    have sAb := sA
    have s35 : Same H34 (upd H34 r35 (.lst (xs ++ [.ref t31, .ref t32, .ref t33]))) := Same.new hr35
    have e35 : upd H34 r35 (.lst (xs ++ [.ref t31, .ref t32, .ref t33])) r35 = some (.lst (xs ++ [.ref t31, .ref t32, .ref t33])) := upd_same
    generalize upd H34 r35 (.lst (xs ++ [.ref t31, .ref t32, .ref t33])) = H35 at s35 e35 ⊢
    have sA : Same H H35 := sA.trans s35
    have W := W.same s35
    have hc := Dp.same s35 _ _ hc
    have hD := DpAll.same s35 _ _ hD
    have hr := e35
    have lx : (xs ++ [V.ref t31, V.ref t32, V.ref t33]).length = 16 := by rw [List.length_append, lx]; rfl
    generalize xs ++ [V.ref t31, V.ref t32, V.ref t33] = xs at hr hD hDb lx ⊢
    refine nx_norm (σ' := [some (.int c), some (.ref pl), some (.ref tl), some (.str name), some (.str odd), some (.str a), some (.str b), some (.int less), some (.str strange), some (.ref t7), some (.str (firstOf strange)), some (.ref r35), none]) rfl ?_
    -- far
    have lf : strange.length + ("qqq" : Str).length ≤ sizeLine := z1000 (by omega)
    have lf2 : ("place " : Str).length + (farOf strange).length ≤ sizeLine := by
      have h1 : ("place " : Str).length = 6 := by decide +kernel
      have h2 : (farOf strange).length = strange.length + ("qqq" : Str).length := Array.size_append ..
      rw [h1, h2]
      exact z1000 (by omega)
    refine ⟨_, rfl, _, _, rfl, rfl, lf, ?_⟩
    refine nx_norm (σ' := [some (.int c), some (.ref pl), some (.ref tl), some (.str name), some (.str odd), some (.str a), some (.str b), some (.int less), some (.str strange), some (.ref t7), some (.str (firstOf strange)), some (.ref r35), some (.str (strange ++ "qqq"))]) rfl ?_
    refine ⟨_, rfl, .inl ⟨rfl, _, SqL.of hr⟩, _, rfl, _, rfl, (by show _ ≤ sizeLine; exact z1000 (by simp)), fun q36 hq36 => ?_⟩
    have s36 : Same H35 (upd H35 q36 (.lst [.str a, .str (strange ++ "qqq")])) := Same.new hq36
    have e36 : upd H35 q36 (.lst [.str a, .str (strange ++ "qqq")]) q36 = some (.lst [.str a, .str (strange ++ "qqq")]) := upd_same
    generalize upd H35 q36 (.lst [.str a, .str (strange ++ "qqq")]) = H36 at s36 e36 ⊢
    have sA : Same H H36 := sA.trans s36
    have W := W.same s36
    refine ⟨(by show _ ≤ sizeLine; exact z1000 (by simp)), fun t37 ht37 => ?_⟩
    have s37 : Same H36 (upd H36 t37 (.tup [.str "these", .ref q36])) := Same.new ht37
    have e37 : upd H36 t37 (.tup [.str "these", .ref q36]) t37 = some (.tup [.str "these", .ref q36]) := upd_same
    generalize upd H36 t37 (.tup [.str "these", .ref q36]) = H37 at s37 e37 ⊢
    have sA : Same H H37 := sA.trans s37
    have W := W.same s37
    refine ⟨(by show _ ≤ sizeLine; exact z1000 (by simp)), fun t38 ht38 => ?_⟩
    have s38 : Same H37 (upd H37 t38 (.tup [.str "size", .ref t37])) := Same.new ht38
    have e38 : upd H37 t38 (.tup [.str "size", .ref t37]) t38 = some (.tup [.str "size", .ref t37]) := upd_same
    generalize upd H37 t38 (.tup [.str "size", .ref t37]) = H38 at s38 e38 ⊢
    have sA : Same H H38 := sA.trans s38
    have W := W.same s38
    refine ⟨_, rfl, (by show _ ≤ sizeLine; exact z1000 (by simp)), fun t39 ht39 => ?_⟩
    have s39 : Same H38 (upd H38 t39 (.tup [.str "flow", .str "qq", .str b])) := Same.new ht39
    have e39 : upd H38 t39 (.tup [.str "flow", .str "qq", .str b]) t39 = some (.tup [.str "flow", .str "qq", .str b]) := upd_same
    generalize upd H38 t39 (.tup [.str "flow", .str "qq", .str b]) = H39 at s39 e39 ⊢
    have sA : Same H H39 := sA.trans s39
    have W := W.same s39
    refine ⟨(by show _ ≤ sizeLine; exact z1000 (by simp)), fun t40 ht40 => ?_⟩
    have s40 : Same H39 (upd H39 t40 (.tup [.str "atmost", .ref t38, .ref t39])) := Same.new ht40
    have e40 : upd H39 t40 (.tup [.str "atmost", .ref t38, .ref t39]) t40 = some (.tup [.str "atmost", .ref t38, .ref t39]) := upd_same
    generalize upd H39 t40 (.tup [.str "atmost", .ref t38, .ref t39]) = H40 at s40 e40 ⊢
    have sA : Same H H40 := sA.trans s40
    have W := W.same s40
    refine ⟨_, rfl, _, _, rfl, rfl, lf2, (by show _ ≤ sizeLine; exact z1000 (by simp)), fun t41 ht41 => ?_⟩
    have s41 : Same H40 (upd H40 t41 (.tup [.str "state", .str "fresh", .ref t40, .str (("place " : Str) ++ (strange ++ "qqq"))])) := Same.new ht41
    have e41 : upd H40 t41 (.tup [.str "state", .str "fresh", .ref t40, .str (("place " : Str) ++ (strange ++ "qqq"))]) t41 = some (.tup [.str "state", .str "fresh", .ref t40, .str (("place " : Str) ++ (strange ++ "qqq"))]) := upd_same
    generalize upd H40 t41 (.tup [.str "state", .str "fresh", .ref t40, .str (("place " : Str) ++ (strange ++ "qqq"))]) = H41 at s41 e41 ⊢
    have sA : Same H H41 := sA.trans s41
    have W := W.same s41
    have hr : H41 r35 = some (.lst xs) := (s41 _ _ (s40 _ _ (s39 _ _ (s38 _ _ (s37 _ _ (s36 _ _ (hr)))))))
    have f36 := (s41 _ _ (s40 _ _ (s39 _ _ (s38 _ _ (s37 _ _ (e36))))))
    have f37 := (s41 _ _ (s40 _ _ (s39 _ _ (s38 _ _ (e37)))))
    have f38 := (s41 _ _ (s40 _ _ (s39 _ _ (e38))))
    have f39 := (s41 _ _ (s40 _ _ (e39)))
    have f40 := (s41 _ _ (e40))
    have f41 := (e41)
    refine ⟨r35, _, _, rfl, rfl, hr, (by rw [lx]; exact small1000 (by decide)), ?_⟩
    have sH : Same H34 (upd H41 r35 (.lst (xs ++ [.ref t41]))) := fun x o e => by
      rw [upd_ne (ne_of_none e hr35)]
      exact (s41 _ _ (s40 _ _ (s39 _ _ (s38 _ _ (s37 _ _ (s36 _ _ (s35 _ _ (e))))))))
    have n36 : q36 ≠ r35 := (ne_of_none (e35) hq36).symm
    have n37 : t37 ≠ r35 := ne_of f37 hr (fun z => nomatch z)
    have n38 : t38 ≠ r35 := ne_of f38 hr (fun z => nomatch z)
    have n39 : t39 ≠ r35 := ne_of f39 hr (fun z => nomatch z)
    have n40 : t40 ≠ r35 := ne_of f40 hr (fun z => nomatch z)
    have n41 : t41 ≠ r35 := ne_of f41 hr (fun z => nomatch z)
    have g36 := (upd_ne (H := H41) (o := .lst (xs ++ [.ref t41])) n36).trans f36
    have g37 := (upd_ne (H := H41) (o := .lst (xs ++ [.ref t41])) n37).trans f37
    have g38 := (upd_ne (H := H41) (o := .lst (xs ++ [.ref t41])) n38).trans f38
    have g39 := (upd_ne (H := H41) (o := .lst (xs ++ [.ref t41])) n39).trans f39
    have g40 := (upd_ne (H := H41) (o := .lst (xs ++ [.ref t41])) n40).trans f40
    have g41 := (upd_ne (H := H41) (o := .lst (xs ++ [.ref t41])) n41).trans f41
    have hr : upd H41 r35 (.lst (xs ++ [.ref t41])) r35 = some (.lst (xs ++ [.ref t41])) := upd_same
    generalize upd H41 r35 (.lst (xs ++ [.ref t41])) = H42 at sH g36 g37 g38 g39 g40 g41 hr ⊢
    have sA : Same H H42 := sAb.trans sH
    have W := Wb.same sH
    have hc := Dp.same sH _ _ hcb
    have hD : DpAll K H42 (xs ++ [.ref t41]) (((((([dW (Deed.place odd, "name"), dW (Deed.place a, "twice"), dW (Deed.tie odd a a 0 1, "name")] ++ [dW (Deed.tie "fresh" odd a 1 1, "name"), dW (Deed.tie t0 a a less 0, "twice")]) ++ [dW (Deed.tie "fresh" a a less 0, "same"), dW (Deed.tie "fresh" a b less 0, "width")]) ++ [dW (Deed.cut "fresh", "tie"), dW (Deed.cut odd, "tie"), dW (Deed.alter "fresh" less 0, "tie")]) ++ [dW (Deed.alter t1 less 5, "width"), dW (Deed.state odd (cl1 a b strange), "name"), dW (Deed.state name (cl1 a b strange), "twice")]) ++ [dW (Deed.state "fresh" (cl1 a b strange), ("place " : Str) ++ firstOf strange), dW (Deed.forget "fresh", "claim"), dW (Deed.forget odd, "claim")]) ++ [dW (Deed.state "fresh" (cl2 a b (farOf strange)), ("place " : Str) ++ farOf strange)]) := (DpAll.same sH _ _ hDb).append (.cons (.tup (xs := [.str "state", .str "fresh", .ref t40, .str (("place " : Str) ++ (strange ++ "qqq"))]) (SqT.of g41) (.cons (.str _) (.cons (.str _) (.cons (.tup (xs := [.str "atmost", .ref t38, .ref t39]) (SqT.of g40)
      (.cons (.str _) (.cons (.tup (xs := [.str "size", .ref t37]) (SqT.of g38) (.cons (.str _) (.cons (.tup (xs := [.str "these", .ref q36]) (SqT.of g37) (.cons (.str _) (.cons (.lst (xs := [.str a, .str (strange ++ "qqq")]) (SqL.of g36) (.cons (.str _) (.cons (.str _) .nil))) .nil))) .nil)))
        (.cons (.tup (xs := [.str "flow", .str "qq", .str b]) (SqT.of g39) (.cons (.str _) (.cons (.str _) (.cons (.str _) .nil)))) .nil)))) (.cons (.str _) .nil))))) .nil)
    have lx : (xs ++ [V.ref t41]).length = 17 := by rw [List.length_append, lx]; rfl
    generalize xs ++ [V.ref t41] = xs at hr hD lx
    -- group last
    refine ⟨_, rfl, (by show _ ≤ sizeLine; exact z1000 (by simp)), fun t43 ht43 => ?_⟩
    have s43 : Same H42 (upd H42 t43 (.tup [.str "claim", .str "fresh", .str "claim"])) := Same.new ht43
    have e43 : upd H42 t43 (.tup [.str "claim", .str "fresh", .str "claim"]) t43 = some (.tup [.str "claim", .str "fresh", .str "claim"]) := upd_same
    generalize upd H42 t43 (.tup [.str "claim", .str "fresh", .str "claim"]) = H43 at s43 e43 ⊢
    have sA : Same H H43 := sA.trans s43
    have W := W.same s43
    have hc := Dp.same s43 _ _ hc
    have hr := s43 _ _ hr
    have hD := DpAll.same s43 _ _ hD
    have hN : DpAll K H43 [.ref t43] [dW (Deed.claim "fresh", "claim")] := .cons (.tup (xs := [.str "claim", .str "fresh", .str "claim"]) (SqT.of e43) (.cons (.str _) (.cons (.str _) (.cons (.str _) .nil)))) .nil
    refine ⟨_, rfl, (by show _ ≤ sizeLine; exact z1000 (by simp)), fun t44 ht44 => ?_⟩
    have s44 : Same H43 (upd H43 t44 (.tup [.str "verdict", .str odd, .str "claim"])) := Same.new ht44
    have e44 : upd H43 t44 (.tup [.str "verdict", .str odd, .str "claim"]) t44 = some (.tup [.str "verdict", .str odd, .str "claim"]) := upd_same
    generalize upd H43 t44 (.tup [.str "verdict", .str odd, .str "claim"]) = H44 at s44 e44 ⊢
    have sA : Same H H44 := sA.trans s44
    have W := W.same s44
    have hc := Dp.same s44 _ _ hc
    have hr := s44 _ _ hr
    have hD := DpAll.same s44 _ _ hD
    have hN : DpAll K H44 ([.ref t43] ++ [.ref t44]) ([dW (Deed.claim "fresh", "claim")] ++ [dW (Deed.verdict odd, "claim")]) := (DpAll.same s44 _ _ hN).append (.cons (.tup (xs := [.str "verdict", .str odd, .str "claim"]) (SqT.of e44) (.cons (.str _) (.cons (.str _) (.cons (.str _) .nil)))) .nil)
    refine ⟨(by show _ ≤ sizeLine; exact z1000 (by simp)), fun t45 ht45 => ?_⟩
    have s45 : Same H44 (upd H44 t45 (.tup [.str "paper", .str "fresh", .str "claim"])) := Same.new ht45
    have e45 : upd H44 t45 (.tup [.str "paper", .str "fresh", .str "claim"]) t45 = some (.tup [.str "paper", .str "fresh", .str "claim"]) := upd_same
    generalize upd H44 t45 (.tup [.str "paper", .str "fresh", .str "claim"]) = H45 at s45 e45 ⊢
    have sA : Same H H45 := sA.trans s45
    have W := W.same s45
    have hc := Dp.same s45 _ _ hc
    have hr := s45 _ _ hr
    have hD := DpAll.same s45 _ _ hD
    have hN : DpAll K H45 ([.ref t43, .ref t44] ++ [.ref t45]) ([dW (Deed.claim "fresh", "claim"), dW (Deed.verdict odd, "claim")] ++ [dW (Deed.paper "fresh", "claim")]) := (DpAll.same s45 _ _ hN).append (.cons (.tup (xs := [.str "paper", .str "fresh", .str "claim"]) (SqT.of e45) (.cons (.str _) (.cons (.str _) (.cons (.str _) .nil)))) .nil)
    refine ⟨(by show _ ≤ sizeLine; exact z1000 (by simp)), fun q46 hq46 => ?_⟩
    have s46 : Same H45 (upd H45 q46 (.lst [.ref t43, .ref t44, .ref t45])) := Same.new hq46
    have e46 : upd H45 q46 (.lst [.ref t43, .ref t44, .ref t45]) q46 = some (.lst [.ref t43, .ref t44, .ref t45]) := upd_same
    generalize upd H45 q46 (.lst [.ref t43, .ref t44, .ref t45]) = H46 at s46 e46 ⊢
    have sA : Same H H46 := sA.trans s46
    have W := W.same s46
    have hc := Dp.same s46 _ _ hc
    have hr := s46 _ _ hr
    have hD : DpAll K H46 (xs ++ [V.ref t43, V.ref t44, V.ref t45]) ((((((([dW (Deed.place odd, "name"), dW (Deed.place a, "twice"), dW (Deed.tie odd a a 0 1, "name")] ++ [dW (Deed.tie "fresh" odd a 1 1, "name"), dW (Deed.tie t0 a a less 0, "twice")]) ++ [dW (Deed.tie "fresh" a a less 0, "same"), dW (Deed.tie "fresh" a b less 0, "width")]) ++ [dW (Deed.cut "fresh", "tie"), dW (Deed.cut odd, "tie"), dW (Deed.alter "fresh" less 0, "tie")]) ++ [dW (Deed.alter t1 less 5, "width"), dW (Deed.state odd (cl1 a b strange), "name"), dW (Deed.state name (cl1 a b strange), "twice")]) ++ [dW (Deed.state "fresh" (cl1 a b strange), ("place " : Str) ++ firstOf strange), dW (Deed.forget "fresh", "claim"), dW (Deed.forget odd, "claim")]) ++ [dW (Deed.state "fresh" (cl2 a b (farOf strange)), ("place " : Str) ++ farOf strange)]) ++ [dW (Deed.claim "fresh", "claim"), dW (Deed.verdict odd, "claim"), dW (Deed.paper "fresh", "claim")]) := (DpAll.same s46 _ _ hD).append (DpAll.same s46 _ _ hN)
    refine ⟨r35, q46, _, _, rfl, rfl, hr, e46, (by rw [lx]; show _ ≤ sizeLine; exact z1000 (by simp)), fun r47 hr47 => ?_⟩
    have hDb := hD
    have Wb := W
    have hcb := hc
    have sAb := sA
    have s47 : Same H46 (upd H46 r47 (.lst (xs ++ [.ref t43, .ref t44, .ref t45]))) := Same.new hr47
    have e47 : upd H46 r47 (.lst (xs ++ [.ref t43, .ref t44, .ref t45])) r47 = some (.lst (xs ++ [.ref t43, .ref t44, .ref t45])) := upd_same
    generalize upd H46 r47 (.lst (xs ++ [.ref t43, .ref t44, .ref t45])) = H47 at s47 e47 ⊢
    have sA : Same H H47 := sA.trans s47
    have W := W.same s47
    have hc := Dp.same s47 _ _ hc
    have hD := DpAll.same s47 _ _ hD
    have hr := e47
    have lx : (xs ++ [V.ref t43, V.ref t44, V.ref t45]).length = 20 := by rw [List.length_append, lx]; rfl
    generalize xs ++ [V.ref t43, V.ref t44, V.ref t45] = xs at hr hD hDb lx ⊢
    refine nx_norm (σ' := [some (.int c), some (.ref pl), some (.ref tl), some (.str name), some (.str odd), some (.str a), some (.str b), some (.int less), some (.str strange), some (.ref t7), some (.str (firstOf strange)), some (.ref r47), some (.str (strange ++ "qqq"))]) rfl ?_
    -- told
    obtain ⟨j, hj, lj⟩ : ∃ j : Nat, c % 20 = j ∧ j < 20 := ⟨(c % 20).toNat, by omega, by omega⟩
    obtain ⟨m, hm⟩ : ∃ m, (menu odd a b strange t0 t1 name less)[j]? = some m := ⟨_, List.getElem?_eq_getElem lj⟩
    have hDm : DpAll K H47 xs ((menu odd a b strange t0 t1 name less).map dW) := hD
    obtain ⟨v, hv, hvd⟩ := hDm.get (i := j) (d := dW m) (by rw [List.getElem?_map, hm]; rfl)
    exact ⟨_, rfl, _, rfl, _, _, rfl, rfl, (by show (0 : Int) < 20; decide), r47, _, _, _, rfl, rfl, SqL.of hr, at_of hj hv, q odd a b strange less m modd mab mless mstr (List.mem_of_getElem? hm) v _ sA hvd⟩
end
end Nc
end

section
set_option maxHeartbeats 4000000
namespace Nc
open PySem PySem.Spec PyProof.Rows L2
/-! the plain law: each line of the menu is refused so -/
structure S3 (p0 p1 p2 t0 t1 name : Str) : Prop where
  np : ∀ z ∈ [p0, p1, p2], isName z = true
  lp : ∃ L, L ≤ 5 ∧ ∀ z ∈ [p0, p1, p2], z.length = L + 1
  qq : ("qqq" : Str) ∉ [p0, p1, p2]
  n01 : p0 ≠ p1
  n12 : p1 ≠ p2
  n20 : p2 ≠ p0
  nt0 : isName t0 = true
  nt1 : isName t1 = true
  t01 : t0 ≠ t1
  f0 : t0 ≠ "fresh"
  f1 : t1 ≠ "fresh"
  nn : isName name = true
  fn : name ≠ "fresh"
def tsOf (p0 p1 p2 t0 t1 : Str) : List Tie := [⟨t0, p0, p1, 2, 3⟩, ⟨t1, p1, p2, 1, -1⟩]
theorem isName_len {z : Str} (h : isName z = true) : z.length ≤ 12 := by
  unfold isName at h
  rw [Bool.and_eq_true, Bool.and_eq_true] at h
  exact of_decide_eq_true h.2.1
theorem odd_no {z : Str} (h : z ∈ odds) : isName z = false ∧ z.length ≤ 100 := by
  unfold odds at h
  simp only [List.mem_cons, List.not_mem_nil, or_false] at h
  rcases h with rfl | rfl | rfl | rfl | rfl | rfl | rfl <;> exact ⟨by decide +kernel, by decide +kernel⟩
theorem ne_isName {x y : Str} (h : isName x = false) (k : isName y = true) : y ≠ x := fun e => by
  rw [e, h] at k
  cases k
theorem fresh_name : isName "fresh" = true := by decide +kernel
theorem len_add (x y : Str) : (x ++ y).length = x.length + y.length := Array.size_append ..
theorem named0 {p0 p1 p2 t0 t1 : Str} : named (tsOf p0 p1 p2 t0 t1) t0 = some ⟨t0, p0, p1, 2, 3⟩ := by
  unfold named tsOf
  exact List.find?_cons_of_pos (by exact decide_eq_true rfl)
theorem named1 {p0 p1 p2 t0 t1 : Str} (h : t0 ≠ t1) : named (tsOf p0 p1 p2 t0 t1) t1 = some ⟨t1, p1, p2, 1, -1⟩ := by
  unfold named tsOf
  rw [List.find?_cons_of_neg (by rw [decide_eq_false h]; exact Bool.noConfusion)]
  exact List.find?_cons_of_pos (by exact decide_eq_true rfl)
theorem named_no {p0 p1 p2 t0 t1 z : Str} (h0 : t0 ≠ z) (h1 : t1 ≠ z) : named (tsOf p0 p1 p2 t0 t1) z = none := by
  unfold named tsOf
  rw [List.find?_cons_of_neg (by rw [decide_eq_false h0]; exact Bool.noConfusion), List.find?_cons_of_neg (by rw [decide_eq_false h1]; exact Bool.noConfusion)]
  rfl
theorem S3.strange {p0 p1 p2 t0 t1 name : Str} (S : S3 p0 p1 p2 t0 t1 name) {a z : Str} (ha : a ∈ [p0, p1, p2]) (h : z ∈ [("nowhere" : Str), "X", "", a ++ "a"]) : z ∉ [p0, p1, p2] ∧ farOf z ∉ [p0, p1, p2] ∧ z.length ≤ 101 := by
  obtain ⟨L, hL, hl⟩ := S.lp
  have hla := hl a ha
  have byL : ∀ {x : Str}, x.length ≠ L + 1 → x ∉ [p0, p1, p2] := fun h k => h (hl _ k)
  have byN : ∀ {x : Str}, isName x = false → x ∉ [p0, p1, p2] := fun h k => ne_isName h (S.np _ k) rfl
  have la1 : ("a" : Str).length = 1 := by decide +kernel
  have lq : ("qqq" : Str).length = 3 := by decide +kernel
  have lnw : ("nowhere" : Str).length = 7 := by decide +kernel
  simp only [List.mem_cons, List.not_mem_nil, or_false] at h
  rcases h with rfl | rfl | rfl | rfl
  · refine ⟨byL (by omega), byL ?_, by omega⟩
    unfold farOf
    rw [len_add]
    omega
  · exact ⟨byN (by decide +kernel), byN (by decide +kernel), by decide +kernel⟩
  · refine ⟨byN (by decide +kernel), ?_, by decide +kernel⟩
    have e : farOf "" = "qqq" := by decide +kernel
    rw [e]
    exact S.qq
  · refine ⟨byL ?_, byL ?_, ?_⟩
    · rw [len_add]
      omega
    · unfold farOf
      rw [len_add, len_add]
      omega
    · rw [len_add]
      omega
theorem stranger_in {ps : List Str} {x : Str} {l : List Str} (h : x ∈ ps) : stranger ps (x :: l) = stranger ps l := by
  unfold stranger
  exact List.find?_cons_of_neg (by rw [decide_eq_true h]; exact Bool.noConfusion)
theorem stranger_out {ps : List Str} {x : Str} {l : List Str} (h : x ∉ ps) : stranger ps (x :: l) = some x := by
  unfold stranger
  exact List.find?_cons_of_pos (by rw [decide_eq_false h]; rfl)
theorem some_cl1 {ps : List Str} {a b z : Str} (ha : a ∈ ps) (hz : z ∉ ps) (hs : ("somewhere" : Str) ∉ ps) : stranger ps (cl1 a b z).names = some (firstOf z) := by
  have e : (cl1 a b z).names = a :: ([("X" : Str), z, "somewhere", b].filter fun u => !decide (u = "X")) := rfl
  rw [e, stranger_in ha, List.filter_cons_of_neg (by decide +kernel)]
  unfold firstOf
  by_cases h : z = "X"
  · rw [if_pos h, List.filter_cons_of_neg (by rw [decide_eq_true h]; exact Bool.noConfusion), List.filter_cons_of_pos (by decide +kernel), stranger_out hs]
  · rw [if_neg h, List.filter_cons_of_pos (by rw [decide_eq_false h]; rfl), stranger_out hz]
theorem some_cl2 {ps : List Str} {a b z : Str} (ha : a ∈ ps) (hz : z ∉ ps) : stranger ps (cl2 a b z).names = some z := by
  have e : (cl2 a b z).names = [a, z, "qq", b] := rfl
  rw [e, stranger_in ha, stranger_out hz]
theorem menu_ok {p0 p1 p2 t0 t1 name : Str} (S : S3 p0 p1 p2 t0 t1 name) {odd a b strange : Str} {less : Int} {m : Deed × Str} (ho : odd ∈ odds) (hab : (a, b) ∈ [(p0, p1), (p1, p2), (p2, p0)]) (hl : less ≤ 0)
    (hs : strange ∈ [("nowhere" : Str), "X", "", a ++ "a"]) (hm : m ∈ menu odd a b strange t0 t1 name less) :
    m.1.fit ∧ m.2.length ≤ 1000 ∧ ∃ e, m.1.er [p0, p1, p2] (tsOf p0 p1 p2 t0 t1) [name] = some e ∧ e.word = m.2 := by
  have ha : a ∈ [p0, p1, p2] := by
    simp only [List.mem_cons, Prod.mk.injEq, List.not_mem_nil, or_false] at hab ⊢
    rcases hab with ⟨rfl, _⟩ | ⟨rfl, _⟩ | ⟨rfl, _⟩
    · exact .inl rfl
    · exact .inr (.inl rfl)
    · exact .inr (.inr rfl)
  have nab : a ≠ b := by
    simp only [List.mem_cons, Prod.mk.injEq, List.not_mem_nil, or_false] at hab
    rcases hab with ⟨rfl, rfl⟩ | ⟨rfl, rfl⟩ | ⟨rfl, rfl⟩
    · exact S.n01
    · exact S.n12
    · exact S.n20
  have nb : isName b = true := by
    simp only [List.mem_cons, Prod.mk.injEq, List.not_mem_nil, or_false] at hab
    rcases hab with ⟨_, rfl⟩ | ⟨_, rfl⟩ | ⟨_, rfl⟩ <;> exact S.np _ (by simp)
  have na := S.np _ ha
  obtain ⟨no, lo⟩ := odd_no ho
  obtain ⟨s1, s2, s3⟩ := S.strange ha hs
  have hsw : ("somewhere" : Str) ∉ [p0, p1, p2] := fun k => by
    obtain ⟨L, hL, hl⟩ := S.lp
    have h := hl _ k
    have e : ("somewhere" : Str).length = 9 := by decide +kernel
    omega
  have la := isName_len na
  have lb := isName_len nb
  have ln := isName_len S.nn
  have lt0 := isName_len S.nt0
  have lfr : ("fresh" : Str).length = 5 := by decide +kernel
  have z : ∀ {x : Str}, x.length ≤ 1000 → x.length ≤ sizeLine := fun h => z1000 (by omega)
  have hfn : ("fresh" : Str) ∉ [name] := by simpa using S.fn.symm
  have hon : odd ∉ [name] := by simpa using (ne_isName no S.nn).symm
  have nfr := named_no (p0 := p0) (p1 := p1) (p2 := p2) S.f0 S.f1
  have nod := named_no (p0 := p0) (p1 := p1) (p2 := p2) (ne_isName no S.nt0) (ne_isName no S.nt1)
  have w4 : ∀ {x : Str}, x ∈ [("name" : Str), "twice", "same", "width", "tie", "claim"] → x.length ≤ 1000 := fun {x} h => by
    simp only [List.mem_cons, List.not_mem_nil, or_false] at h
    rcases h with rfl | rfl | rfl | rfl | rfl | rfl <;> decide +kernel
  have fit1 : ∀ {x : Str}, x.length ≤ 1000 → (Deed.state x (cl1 a b strange)).fit := fun {x} h => ⟨z h, by show max 0 0 + 1 + 1 < 4; decide, by show 2 + 2 + 1 ≤ 1000; decide⟩
  unfold menu at hm
  simp only [List.mem_cons, List.not_mem_nil, or_false] at hm
  rcases hm with rfl | rfl | rfl | rfl | rfl | rfl | rfl | rfl | rfl | rfl | rfl | rfl | rfl | rfl | rfl | rfl | rfl | rfl | rfl | rfl
  · exact ⟨z (by omega), w4 (by simp), .name, if_pos no, rfl⟩
  · refine ⟨z (by omega), w4 (by simp), .twice, ?_, rfl⟩
    show placeEr _ _ = _
    unfold placeEr
    rw [if_neg (by rw [na]; exact Bool.noConfusion), if_pos ha]
  · refine ⟨fun u hu => ?_, w4 (by simp), .name, ?_, rfl⟩
    · simp only [List.mem_cons, List.not_mem_nil, or_false] at hu
      rcases hu with rfl | rfl | rfl <;> exact z (by omega)
    · show tieEr _ _ _ _ _ _ = _
      unfold tieEr
      rw [if_pos (by rw [no]; rfl)]
  · refine ⟨fun u hu => ?_, w4 (by simp), .name, ?_, rfl⟩
    · simp only [List.mem_cons, List.not_mem_nil, or_false] at hu
      rcases hu with rfl | rfl | rfl <;> exact z (by omega)
    · show tieEr _ _ _ _ _ _ = _
      unfold tieEr
      rw [if_pos (by rw [no, Bool.false_and, Bool.and_false])]
  · refine ⟨fun u hu => ?_, w4 (by simp), .twice, ?_, rfl⟩
    · simp only [List.mem_cons, List.not_mem_nil, or_false] at hu
      rcases hu with rfl | rfl | rfl <;> exact z (by omega)
    · show tieEr _ _ _ _ _ _ = _
      unfold tieEr
      rw [if_neg (by rw [S.nt0, na]; exact Bool.noConfusion), if_pos (by rw [named0]; rfl)]
  · refine ⟨fun u hu => ?_, w4 (by simp), .same, ?_, rfl⟩
    · simp only [List.mem_cons, List.not_mem_nil, or_false] at hu
      rcases hu with rfl | rfl | rfl <;> exact z (by omega)
    · show tieEr _ _ _ _ _ _ = _
      unfold tieEr
      rw [if_neg (by rw [fresh_name, na]; exact Bool.noConfusion), if_neg (by rw [nfr]; exact Bool.noConfusion), if_pos rfl]
  · refine ⟨fun u hu => ?_, w4 (by simp), .width, ?_, rfl⟩
    · simp only [List.mem_cons, List.not_mem_nil, or_false] at hu
      rcases hu with rfl | rfl | rfl <;> exact z (by omega)
    · show tieEr _ _ _ _ _ _ = _
      unfold tieEr
      rw [if_neg (by rw [fresh_name, na, nb]; exact Bool.noConfusion), if_neg (by rw [nfr]; exact Bool.noConfusion), if_neg nab, if_pos (by omega)]
  · exact ⟨trivial, w4 (by simp), .tie, if_pos nfr, rfl⟩
  · exact ⟨trivial, w4 (by simp), .tie, if_pos nod, rfl⟩
  · refine ⟨trivial, w4 (by simp), .tie, ?_, rfl⟩
    show (if less < 1 then _ else _) = _
    rw [if_pos (by omega)]
    unfold alterEr
    rw [nfr]
    rfl
  · refine ⟨trivial, w4 (by simp), .width, ?_, rfl⟩
    show (if less < 1 then _ else _) = _
    rw [if_pos (by omega)]
    unfold alterEr
    rw [named1 S.t01]
    rfl
  · refine ⟨fit1 (by omega), w4 (by simp), .name, if_pos no, rfl⟩
  · refine ⟨fit1 (by omega), w4 (by simp), .twice, ?_, rfl⟩
    show stateEr _ _ _ _ = _
    unfold stateEr
    rw [if_neg (by rw [S.nn]; exact Bool.noConfusion), if_pos (by simp)]
  · refine ⟨fit1 (by omega), ?_, .place (firstOf strange), ?_, rfl⟩
    · show (("place " : Str) ++ firstOf strange).length ≤ 1000
      have h1 : ("place " : Str).length = 6 := by decide +kernel
      have h2 := first_len s3
      rw [len_add]
      omega
    · show stateEr _ _ _ _ = _
      unfold stateEr
      rw [if_neg (by rw [fresh_name]; exact Bool.noConfusion), if_neg hfn, some_cl1 ha s1 hsw]
      rfl
  · exact ⟨trivial, w4 (by simp), .claim, if_neg hfn, rfl⟩
  · exact ⟨trivial, w4 (by simp), .claim, if_neg hon, rfl⟩
  · refine ⟨⟨z (by omega), by show 0 < 4; decide, by show 2 + 2 ≤ 1000; decide⟩, ?_, .place (farOf strange), ?_, rfl⟩
    · show (("place " : Str) ++ farOf strange).length ≤ 1000
      have h1 : ("place " : Str).length = 6 := by decide +kernel
      have h2 : ("qqq" : Str).length = 3 := by decide +kernel
      unfold farOf
      rw [len_add, len_add]
      omega
    · show stateEr _ _ _ _ = _
      unfold stateEr
      rw [if_neg (by rw [fresh_name]; exact Bool.noConfusion), if_neg hfn, some_cl2 ha s2]
      rfl
  · exact ⟨trivial, w4 (by simp), .claim, if_neg hfn, rfl⟩
  · exact ⟨trivial, w4 (by simp), .claim, if_neg hon, rfl⟩
  · exact ⟨trivial, w4 (by simp), .claim, if_neg hfn, rfl⟩
end Nc
end

section
set_option maxHeartbeats 4000000
namespace Nc
open PySem PySem.Spec PyProof.Rows L2
/-! the law's texts; its book as it grows -/
def let1 (n : Nat) : Str := ⟨#[97 + n]⟩
def heads : List Str := ["", "c", "co", "cou", "cour", "court"]
theorem letters_at {n : Nat} (h : n < 26) : letters.cps.toList[n]? = some (97 + n) := by
  have key : ∀ m : Nat, m < 26 → letters.cps.toList[m]? = some (97 + m) := by decide +kernel
  exact key n h
theorem letters_len : letters.length ≤ sizeLine := Nat.le_trans (show letters.length ≤ 2000 by decide +kernel) (by decide)
theorem head_in {j : Nat} (h : j < 6) : cutS "court" none (some (j : Int)) ∈ heads := by
  have key : ∀ m : Nat, m < 6 → cutS "court" none (some (m : Int)) ∈ heads := by decide +kernel
  exact key j h
abbrev plc (hd : Str) (n : Nat) : Str := hd ++ let1 n
abbrev tnm (hd : Str) (n : Nat) : Str := let1 n ++ hd
abbrev cnm (hd : Str) (n : Nat) : Str := (hd ++ let1 n) ++ "s"
abbrev zn (n : Nat) : Str := (("z" : Str) ++ let1 n) ++ "zz"
theorem hd_len {hd : Str} (h : hd ∈ heads) : hd.length ≤ 5 := by
  have key : ∀ x ∈ heads, x.length ≤ 5 := by decide +kernel
  exact key hd h
theorem plc_ok {hd : Str} (h : hd ∈ heads) {n : Nat} (hn : n < 26) : isName (plc hd n) = true ∧ plc hd n ≠ "qqq" ∧ plc hd n ≠ "another" := by
  have key : ∀ x ∈ heads, ∀ m : Nat, m < 26 → isName (plc x m) = true ∧ plc x m ≠ "qqq" ∧ plc x m ≠ "another" := by decide +kernel
  exact key hd h n hn
theorem tnm_ok {hd : Str} (h : hd ∈ heads) {n : Nat} (hn : n < 26) : isName (tnm hd n) = true ∧ tnm hd n ≠ "fresh" := by
  have key : ∀ x ∈ heads, ∀ m : Nat, m < 26 → isName (tnm x m) = true ∧ tnm x m ≠ "fresh" := by decide +kernel
  exact key hd h n hn
theorem cnm_ok {hd : Str} (h : hd ∈ heads) {n : Nat} (hn : n < 26) : isName (cnm hd n) = true ∧ cnm hd n ≠ "fresh" := by
  have key : ∀ x ∈ heads, ∀ m : Nat, m < 26 → isName (cnm x m) = true ∧ cnm x m ≠ "fresh" := by decide +kernel
  exact key hd h n hn
theorem zn_ok {n : Nat} (hn : n < 26) : isName (zn n) = true ∧ zn n ≠ "another" := by
  have key : ∀ m : Nat, m < 26 → isName (zn m) = true ∧ zn m ≠ "another" := by decide +kernel
  exact key n hn
theorem let1_inj {n m : Nat} (h : let1 n = let1 m) : n = m := by
  unfold let1 at h
  injection h with h
  injection h with h
  injection h with h
  omega
theorem cps_add (x y : Str) : (x ++ y).cps.toList = x.cps.toList ++ y.cps.toList := Array.toList_append ..
theorem str_of {x y : Str} (h : x.cps.toList = y.cps.toList) : x = y := by
  cases x
  cases y
  congr 1
  exact Array.toList_inj.mp h
theorem plc_inj {hd : Str} {n m : Nat} (h : plc hd n = plc hd m) : n = m := by
  have e : (hd ++ let1 n : Str).cps.toList = (hd ++ let1 m : Str).cps.toList := congrArg (fun z : Str => z.cps.toList) h
  rw [cps_add, cps_add] at e
  exact let1_inj (str_of (List.append_cancel_left e))
theorem tnm_inj {hd : Str} {n m : Nat} (h : tnm hd n = tnm hd m) : n = m := by
  have e : (let1 n ++ hd : Str).cps.toList = (let1 m ++ hd : Str).cps.toList := congrArg (fun z : Str => z.cps.toList) h
  rw [cps_add, cps_add] at e
  exact let1_inj (str_of (List.append_cancel_right e))
theorem zn_inj {n m : Nat} (h : zn n = zn m) : n = m := by
  have e : ((("z" : Str) ++ let1 n) ++ "zz" : Str).cps.toList = ((("z" : Str) ++ let1 m) ++ "zz" : Str).cps.toList := congrArg (fun z : Str => z.cps.toList) h
  rw [cps_add, cps_add, cps_add, cps_add] at e
  exact let1_inj (str_of (List.append_cancel_left (List.append_cancel_right e)))
theorem zn_plc {hd : Str} (h : hd ∈ heads) {n m : Nat} (hn : n < 26) (hm : m < 26) : zn m ≠ plc hd n := by
  intro e
  have e1 : (zn m).cps.toList = (plc hd n).cps.toList := by rw [e]
  have key : ∀ x ∈ heads, ∀ i : Nat, i < 26 → ((plc x i).length ≠ 4 ∨ (plc x i).cps.toList.head? = some 99) := by decide +kernel
  have l4 : ∀ i : Nat, i < 26 → (zn i).length = 4 ∧ (zn i).cps.toList.head? = some 122 := by decide +kernel
  rcases key hd h n hn with k | k
  · rw [← e] at k
    exact k (l4 m hm).1
  · rw [← e1, (l4 m hm).2] at k
    cases k
theorem isName_strOk {z : Str} (h : isName z = true) : PyData.strOk z = true := by
  unfold isName at h
  rw [Bool.and_eq_true, Bool.and_eq_true] at h
  have h2 := h.2.2
  rw [List.all_eq_true] at h2
  have key : ∀ c ∈ letters.cps.toList, c < 0x110000 := by decide +kernel
  unfold PyData.strOk
  rw [Array.all_eq_true_iff_forall_mem]
  intro c hc
  exact decide_eq_true (key c (of_decide_eq_true (h2 c (Array.mem_toList_iff.mpr hc))))
theorem strOk_add {x y : Str} (h : PyData.strOk x = true) (k : PyData.strOk y = true) : PyData.strOk (x ++ y) = true := by
  unfold PyData.strOk at h k ⊢
  show (x.cps ++ y.cps).all _ = true
  rw [Array.all_append, h, k]
  rfl
theorem eqv_self {n : Nat} {d : PyData} (h : Sh n d) : PyData.eqv d d = true := PySem.SeqAt.eqv_refl_plain d (PyData.plain_of_canLay0 d h.1)
theorem eqv_one (z : Str) : PyData.eqv (.list [.str z]) (.list [.str z]) = true := PySem.SeqAt.eqv_refl_plain _ rfl
theorem dp_snoc {K : PySem.W.Frag} {H : Hp} {xs : List V} {ds : List PyData} {e : PyData} (h : DpAll K H xs (ds ++ [e])) : ∃ ys y, xs = ys ++ [y] ∧ DpAll K H ys ds ∧ Dp K H y e := by
  induction ds generalizing xs with
  | nil =>
    obtain ⟨x, r, rfl, h1, h2⟩ := dp_cons h
    obtain rfl := dp_nil h2
    exact ⟨[], x, rfl, .nil, h1⟩
  | cons d ds ih =>
    obtain ⟨x, r, rfl, h1, h2⟩ := dp_cons h
    obtain ⟨ys, y, rfl, h3, h4⟩ := ih h2
    exact ⟨x :: ys, y, rfl, .cons h1 h3, h4⟩
theorem cut_last (ys : List V) (y : V) : cutV (ys ++ [y]) none (some (-1)) = ys := by
  have l : (ys ++ [y]).length = ys.length + 1 := by rw [List.length_append]; rfl
  have e : HT.sIx (ys ++ [y]).length (ys ++ [y]).length (some (-1)) = ys.length := by
    unfold HT.sIx
    rw [l]
    show (if (-1 : Int) < 0 then _ else _) = _
    rw [if_pos (by decide)]
    omega
  unfold cutV
  rw [e]
  show ((ys ++ [y]).drop 0).take (ys.length - 0) = ys
  rw [List.drop_zero, Nat.sub_zero, List.take_left]
theorem cut_whole (ys : List V) (y : V) : ¬ (HT.sIx (ys ++ [y]).length 0 none = 0 ∧ HT.sIx (ys ++ [y]).length (ys ++ [y]).length (some (-1)) = (ys ++ [y]).length) := by
  intro h
  have l : (ys ++ [y]).length = ys.length + 1 := by rw [List.length_append]; rfl
  have h2 := h.2
  unfold HT.sIx at h2
  rw [l] at h2
  have e : (if (-1 : Int) < 0 then ((-1 : Int) + ((ys.length + 1 : Nat) : Int)).toNat else min (-1 : Int).toNat (ys.length + 1)) = ys.length := by
    rw [if_pos (by decide)]
    omega
  have h3 : (if (-1 : Int) < 0 then ((-1 : Int) + ((ys.length + 1 : Nat) : Int)).toNat else min (-1 : Int).toNat (ys.length + 1)) = ys.length + 1 := h2
  omega
/-- the way is found -/
theorem found_it {p0 p1 p2 t0 t1 name : Str} (S : S3 p0 p1 p2 t0 t1 name) : Found [p0, p1, p2] (tsOf p0 p1 p2 t0 t1) (.way p0 p2) (.tuple [.bool true, .list [.str t0, .str t1]]) := by
  refine ⟨[t0, t1], ⟨4, ⟨fun z => if z = p2 then some (some ⟨t1, p1, p2, 1, -1⟩) else if z = p1 then some (some ⟨t0, p0, p1, 2, 3⟩) else if z = p0 then some none else none, [p0, p1, p2]⟩, 3, [t1, t0], ?_, (by show 3 ≤ 1000; decide), ?_, ?_, (by show 2 ≤ 1000; decide), rfl⟩, rfl⟩
  · have h10 := S.n01
    have h21 := S.n12
    have h02 := S.n20
    have e1 : (tsOf p0 p1 p2 t0 t1).foldl (CT.step p0) (CT.start p0) = ⟨fun z => if z = p1 then some (some ⟨t0, p0, p1, 2, 3⟩) else if z = p0 then some none else none, [p0, p1]⟩ := by
      show CT.step p0 (CT.step p0 (CT.start p0) ⟨t0, p0, p1, 2, 3⟩) ⟨t1, p1, p2, 1, -1⟩ = _
      have a : CT.step p0 (CT.start p0) ⟨t0, p0, p1, 2, 3⟩ = ⟨fun z => if z = p1 then some (some ⟨t0, p0, p1, 2, 3⟩) else if z = p0 then some none else none, [p0, p1]⟩ := by
        unfold CT.step CT.start
        rw [if_pos ⟨rfl, if_neg h10.symm⟩]
        rfl
      rw [a]
      unfold CT.step
      rw [if_neg (fun k => h10 k.1.symm)]
    have e2 : (tsOf p0 p1 p2 t0 t1).foldl (CT.step p1) ⟨fun z => if z = p1 then some (some ⟨t0, p0, p1, 2, 3⟩) else if z = p0 then some none else none, [p0, p1]⟩ = ⟨fun z => if z = p2 then some (some ⟨t1, p1, p2, 1, -1⟩) else if z = p1 then some (some ⟨t0, p0, p1, 2, 3⟩) else if z = p0 then some none else none, [p0, p1, p2]⟩ := by
      show CT.step p1 (CT.step p1 _ ⟨t0, p0, p1, 2, 3⟩) ⟨t1, p1, p2, 1, -1⟩ = _
      have a : CT.step p1 ⟨fun z => if z = p1 then some (some ⟨t0, p0, p1, 2, 3⟩) else if z = p0 then some none else none, [p0, p1]⟩ ⟨t0, p0, p1, 2, 3⟩ = ⟨fun z => if z = p1 then some (some ⟨t0, p0, p1, 2, 3⟩) else if z = p0 then some none else none, [p0, p1]⟩ := by
        unfold CT.step
        rw [if_neg (fun k => h10 k.1)]
      rw [a]
      unfold CT.step
      rw [if_pos ⟨rfl, by show (if p2 = p1 then _ else if p2 = p0 then _ else _) = _; rw [if_neg h21.symm, if_neg h02]⟩]
      rfl
    have e3 : ∀ s : CT, (tsOf p0 p1 p2 t0 t1).foldl (CT.step p2) s = s := fun s => by
      show CT.step p2 (CT.step p2 s ⟨t0, p0, p1, 2, 3⟩) ⟨t1, p1, p2, 1, -1⟩ = s
      have a : CT.step p2 s ⟨t0, p0, p1, 2, 3⟩ = s := by
        unfold CT.step
        rw [if_neg (fun k => h02 k.1.symm)]
      rw [a]
      unfold CT.step
      rw [if_neg (fun k => h21 k.1)]
    show CT.run _ 3 1 ((tsOf p0 p1 p2 t0 t1).foldl (CT.step p0) (CT.start p0)) = _
    rw [e1]
    show CT.run _ 2 2 ((tsOf p0 p1 p2 t0 t1).foldl (CT.step p1) _) = _
    rw [e2]
    show CT.run _ 1 3 ((tsOf p0 p1 p2 t0 t1).foldl (CT.step p2) _) = _
    rw [e3]
    rfl
  · show (if p2 = p2 then _ else _ : Option (Option Tie)).isSome = true
    rw [if_pos rfl]
    rfl
  · have h10 := S.n01
    have h21 := S.n12
    have h02 := S.n20
    unfold wayBack
    rw [if_neg h02]
    show (match (if p2 = p2 then some (some ⟨t1, p1, p2, 1, -1⟩) else _ : Option (Option Tie)) with | some (some t) => wayBack _ p0 2 t.a ([] ++ [t.name]) | _ => none) = _
    rw [if_pos rfl]
    show wayBack _ p0 2 p1 [t1] = _
    unfold wayBack
    rw [if_neg h10.symm]
    show (match (if p1 = p2 then _ else if p1 = p1 then some (some ⟨t0, p0, p1, 2, 3⟩) else _ : Option (Option Tie)) with | some (some t) => wayBack _ p0 1 t.a ([t1] ++ [t.name]) | _ => none) = _
    rw [if_neg h21, if_pos rfl]
    show wayBack _ p0 1 p0 [t1, t0] = _
    unfold wayBack
    rw [if_pos rfl]
/-- .. and its walk is let by -/
theorem walk_it {p0 p1 p2 t0 t1 name : Str} (S : S3 p0 p1 p2 t0 t1 name) : walkTo (tsOf p0 p1 p2 t0 t1) p0 [t0, t1] = some p2 := by
  unfold walkTo
  rw [named0]
  show (if p0 = p0 then walkTo _ p1 [t1] else none) = _
  rw [if_pos rfl]
  unfold walkTo
  rw [named1 S.t01]
  show (if p1 = p1 then walkTo _ p2 [] else none) = _
  rw [if_pos rfl]
  rfl
def gRing (p2 : Str) : Str → Int := fun z => if z = p2 then -1 else 0
/-- no ring is below nought -/
theorem ring_it {p0 p1 p2 t0 t1 name : Str} (S : S3 p0 p1 p2 t0 t1 name) : Found [p0, p1, p2] (tsOf p0 p1 p2 t0 t1) .ring (.tuple [.bool false, .list ([p0, p1, p2].map fun z => .list [.str z, .int (gRing p2 z)])]) := by
  have h21 := S.n12
  have h02 := S.n20
  refine ⟨gRing p2, fun t ht => ?_, by show 3 ≤ 20; decide, by show 2 ≤ 40; decide, ?_, rfl⟩
  · unfold tsOf at ht
    simp only [List.mem_cons, List.not_mem_nil, or_false] at ht
    rcases ht with rfl | rfl <;> simp
  · have a1 : low1 ((fun _ => 0), none) ⟨t0, p0, p1, 2, 3⟩ = ((fun _ => 0), none) := by
      unfold low1
      rw [if_neg (by show ¬ ((0 : Int) + 3 < 0); decide)]
    have a2 : low1 ((fun _ => 0), none) ⟨t1, p1, p2, 1, -1⟩ = (gRing p2, some p2) := by
      unfold low1
      rw [if_pos (by show (0 : Int) + -1 < 0; decide)]
      rfl
    have g0 : gRing p2 p0 = 0 := if_neg h02.symm
    have g1 : gRing p2 p1 = 0 := if_neg h21
    have g2 : gRing p2 p2 = -1 := if_pos rfl
    have b1 : low1 (gRing p2, none) ⟨t0, p0, p1, 2, 3⟩ = (gRing p2, none) := by
      unfold low1
      rw [if_neg (by show ¬ (gRing p2 p0 + 3 < gRing p2 p1); rw [g0, g1]; decide)]
    have b2 : low1 (gRing p2, none) ⟨t1, p1, p2, 1, -1⟩ = (gRing p2, none) := by
      unfold low1
      rw [if_neg (by show ¬ (gRing p2 p1 + -1 < gRing p2 p2); rw [g1, g2]; decide)]
    have f1 : (tsOf p0 p1 p2 t0 t1).foldl low1 ((fun _ => 0), none) = (gRing p2, some p2) := by
      show low1 (low1 ((fun _ => 0), none) ⟨t0, p0, p1, 2, 3⟩) ⟨t1, p1, p2, 1, -1⟩ = _
      rw [a1, a2]
    have f2 : (tsOf p0 p1 p2 t0 t1).foldl low1 (gRing p2, none) = (gRing p2, none) := by
      show low1 (low1 (gRing p2, none) ⟨t0, p0, p1, 2, 3⟩) ⟨t1, p1, p2, 1, -1⟩ = _
      rw [b1, b2]
    show setl _ 4 _ = _
    unfold setl
    rw [f1]
    show setl _ 3 _ = _
    unfold setl
    rw [f2]
theorem sh_strs {ds : List Str} (h : ∀ z ∈ ds, PyData.strOk z = true) : Sh 2 (.list (ds.map PyData.str)) := sh_list (sha_map fun z hz => sh_str (h z hz))
end Nc
end

section
set_option maxHeartbeats 20000000
namespace Nc
open PySem PySem.Spec PyProof.Rows L2
/-! law: walked -/
theorem if_same {b : Bool} {A B C : Prop} (c : C) (h1 : b = true → C → A) (h2 : b = false → C → B) : if b = true then A else B := by
  cases b with
  | true => exact h1 rfl c
  | false => exact h2 rfl c
theorem past {H0 H H' : Hp} {ms : List Addr} (F : Same H0 H) (sb : SameBut ms H H') (new : ∀ a ∈ ms, H0 a = none) : Same H0 H' := fun b o e => sb b o (F b o e) fun h => by
  rw [new b h] at e
  cases e
abbrev rAS : R2 := fun x y H Q => ∃ i j, x = .str i ∧ y = .str j ∧ i.length + j.length ≤ sizeLine ∧ Q (.str (i ++ j)) H
abbrev tLet (d : Int) : TE := tOp rIxS (tVar 2) (tOp (rI (fun _ j => 0 < j) fun i j => .int (i % j)) (tOp (rI0 fun i j => .int (i + j)) (tOp (rI CDiv fun i j => .int (i / j)) (tVar 1) (tC (.int d))) (tVar 4)) (tC (.int 26)))
def spLaw (K : PySem.W.Frag) : Sp := fun vs H Q _ => ∃ (a : Addr) (ns : List Int), vs = [.ref a] ∧ ns.length ≤ 63 ∧ SqL K H a (ns.map V.int) ∧ ∀ H', Q (.bl true) H'
theorem atN {l : List Nat} {z : Int} {j c : Nat} (e : z = (j : Int)) (h : l[j]? = some c) : atI l z = some c := by
  rw [e]
  exact atI_nat h
theorem np_of (b : Int) : ∃ np : Nat → Nat, (∀ k : Nat, (b + (0 + (k : Int))) % 26 = np k) ∧ ∀ k, np k < 26 := by
  refine ⟨fun k => ((b + (k : Int)) % 26).toNat, fun k => ?_, fun k => ?_⟩
  · show (b + (0 + (k : Int))) % 26 = (((b + (k : Int)) % 26).toNat : Int)
    omega
  · show ((b + (k : Int)) % 26).toNat < 26
    omega
theorem menu_strOk {odd a b strange t0 t1 name : Str} {less : Int} {m : Deed × Str} (oka : PyData.strOk a = true) (hs : strange ∈ [("nowhere" : Str), "X", "", a ++ "a"]) (hm : m ∈ menu odd a b strange t0 t1 name less) : PyData.strOk m.2 = true := by
  have oks : PyData.strOk strange = true := by
    simp only [List.mem_cons, List.not_mem_nil, or_false] at hs
    rcases hs with rfl | rfl | rfl | rfl
    · decide +kernel
    · decide +kernel
    · decide +kernel
    · exact strOk_add oka (by decide +kernel)
  unfold menu at hm
  simp only [List.mem_cons, List.not_mem_nil, or_false] at hm
  rcases hm with rfl | rfl | rfl | rfl | rfl | rfl | rfl | rfl | rfl | rfl | rfl | rfl | rfl | rfl | rfl | rfl | rfl | rfl | rfl | rfl
  case inr.inr.inr.inr.inr.inr.inr.inr.inr.inr.inr.inr.inr.inl =>
    refine strOk_add (by decide +kernel) ?_
    unfold firstOf
    by_cases e : strange = "X"
    · rw [if_pos e]
      decide +kernel
    · rw [if_neg e]
      exact oks
  case inr.inr.inr.inr.inr.inr.inr.inr.inr.inr.inr.inr.inr.inr.inr.inr.inl => exact strOk_add (by decide +kernel) (strOk_add oks (by decide +kernel))
  all_goals (dsimp only; decide +kernel)
theorem pair_in {p0 p1 p2 a b : Str} (h : (a, b) ∈ [(p0, p1), (p1, p2), (p2, p0)]) : a ∈ [p0, p1, p2] := by
  simp only [List.mem_cons, Prod.mk.injEq, List.not_mem_nil, or_false] at h ⊢
  rcases h with ⟨rfl, _⟩ | ⟨rfl, _⟩ | ⟨rfl, _⟩
  · exact .inl rfl
  · exact .inr (.inl rfl)
  · exact .inr (.inr rfl)
theorem let1_len (n : Nat) : (let1 n).length = 1 := rfl
section
variable {P : Program} {w : World} {K : PySem.W.Frag} {mg : Str → Option Value} {base : Heap}
theorem sc_law : FnScope ["_law_script", "_law_first", "_law_letters", "_law_head", "_law_k", "_law_places", "_law_ties", "_law_book", "_law_name", "_law_before", "_law_cell", "_law_wrong_here", "_law_word"] ["_law_script"] (defScope sLaw) := ⟨rfl, rfl, rfl, by decide +kernel, rfl, by decide +kernel, by decide +kernel⟩
theorem ok_law (T : Txt K mg) {f : Addr} {fd : FuncData} (F : FunD K "law" "law" (defArgs sLaw) (defBody sLaw) (defScope sLaw) [] [] f fd) : FnOk P w K mg base (L2.CX P w) 12 f fd ["_law_script"] (spLaw K) := by
  obtain ⟨f1, fd1, G1, m1, b1⟩ := ((rm_bInit (P := P) (w := w) (base := base) T).mono (show 3 ≤ 10 by decide)).ex
  obtain ⟨f2, fd2, G2, m2, b2⟩ := ((rm_bkPlace (P := P) (w := w) (base := base) T).mono (show 6 ≤ 11 by decide)).ex
  obtain ⟨f3, fd3, G3, m3, b3⟩ := ((rm_bkTie (P := P) (w := w) (base := base) T).mono (show 6 ≤ 11 by decide)).ex
  obtain ⟨f4, fd4, G4, m4, b4⟩ := ((rm_bkState (P := P) (w := w) (base := base) T).mono (show 9 ≤ 11 by decide)).ex
  obtain ⟨f5, fd5, G5, g5, k5, b5⟩ := ((rd_look (P := P) (w := w) (base := base) T).mono (show 5 ≤ 11 by decide)).ex
  obtain ⟨f6, fd6, G6, g6, k6, b6⟩ := ((rd_wrong (P := P) (w := w) (base := base) T).mono (show 1 ≤ 11 by decide)).ex
  obtain ⟨f7, fd7, G7, g7, k7, b7⟩ := (rd_class (P := P) (w := w) (base := base) T).ex
  obtain ⟨f8, fd8, G8, m8, b8⟩ := ((rm_bkVerdict (P := P) (w := w) (base := base) T).mono (show 3 ≤ 11 by decide)).ex
  obtain ⟨f9, fd9, G9, m9, b9⟩ := ((rm_bkPaper (P := P) (w := w) (base := base) T).mono (show 4 ≤ 11 by decide)).ex
  obtain ⟨fa, fda, Ga, ma, ba⟩ := ((rm_bkForget (P := P) (w := w) (base := base) T).mono (show 2 ≤ 11 by decide)).ex
  refine F.ok sc_law (fun vs H Q E h => ?_) (fun cdv A outer s H vs Q E hr h => ?_)
  · obtain ⟨a, ns, rfl, _⟩ := h
    rfl
  · obtain ⟨a, ns, rfl, hns, hS, q⟩ := h
    have nd := sc_law.nd
    have hu : (A.deeper (envOfC "law" (defScope sLaw) s.heap.objs.size f cdv)).units + 64 < cLine := by have := hr.un; omega
    refine ⟨_, pss_cons (ps_set (i := 1) nd rfl (Or.inr rfl) pe_int) <|
      pss_cons (ps_if (pt_cmpR op_gt (pe_callB call_len_seq (by rfl) T.len PySem.boot_len (pa_cons (pv 0) pa_nil)) pe_int (nomark _)) (pss_one (ps_set (i := 1) nd rfl (Or.inr rfl) (pe_ix ix_list (pv 0) pe_int (fun _ _ => rfl)))) pss_nil) <|
      pss_cons (ps_set (i := 2) nd rfl (Or.inr rfl) pe_str) <|
      pss_cons (ps_set (i := 3) nd rfl (Or.inr rfl) (pe_slice sl_str pe_str po_none (po_some (pe_op op_mod (pv 1) pe_int)))) <|
      pss_cons (ps_setLc (i := 5) (own := [("_law_k", 4)]) (g := gName 4) (tt := tYes) (te := tOp rAS (tVar 3) (tLet 6)) rfl nd rfl rfl (sw_true rfl rfl rfl (by decide +kernel)) (pi_range1 rfl T.range (pa_cons pe_int pa_nil))
        (blkOk_by (N := ["_law_script", "_law_first", "_law_letters", "_law_head", "_law_k", "_law_places", "_law_ties", "_law_book", "_law_name", "_law_before", "_law_cell", "_law_wrong_here", "_law_word"]) (sc := defScope sLaw) (by decide +kernel)) (fun _ _ _ _ _ => pg_name (i := 4) nd rfl (Or.inl rfl)) (fun _ _ _ _ _ => pts_nil)
        (fun _ _ _ _ _ => by exact pe_op op_add_str (pv 3) (pe_ix ix_str (pv 2) (pe_op op_mod (pe_op op_add (pe_op op_fdiv (pv 1) pe_int) (pv 4)) pe_int) (fun _ _ => rfl)))) <|
      pss_cons (ps_setLc (i := 6) (own := [("_law_k", 4)]) (g := gName 4) (tt := tYes) (te := tOp rAS (tLet 156) (tVar 3)) rfl nd rfl rfl (sw_true rfl rfl rfl (by decide +kernel)) (pi_range1 rfl T.range (pa_cons pe_int pa_nil))
        (blkOk_by (N := ["_law_script", "_law_first", "_law_letters", "_law_head", "_law_k", "_law_places", "_law_ties", "_law_book", "_law_name", "_law_before", "_law_cell", "_law_wrong_here", "_law_word"]) (sc := defScope sLaw) (by decide +kernel)) (fun _ _ _ _ _ => pg_name (i := 4) nd rfl (Or.inl rfl)) (fun _ _ _ _ _ => pts_nil)
        (fun _ _ _ _ _ => by exact pe_op op_add_str (pe_ix ix_str (pv 2) (pe_op op_mod (pe_op op_add (pe_op op_fdiv (pv 1) pe_int) (pv 4)) pe_int) (fun _ _ => rfl)) (pv 3))) <|
      pss_cons (ps_set (i := 7) nd rfl (Or.inl rfl) (pe_make0 (T.mkB m1) G1 hr rfl T.gB b1 .nil passL)) <|
      pss_cons (ps_for (passes_of rfl) rfl (pi_list (pv 5)) (pg_name (i := 8) nd rfl (Or.inl rfl)) (pss_one (ps_expr (pe_meth (pv 7) T.clB m2 G2 hr b2 .nil passL (pa_cons (pv 8) pa_nil))))) <|
      pss_cons (ps_expr (pe_meth (pv 7) T.clB m3 G3 hr b3 .nil passL (pa_cons (pe_ix ix_list (pv 6) pe_int (fun _ _ => rfl)) (pa_cons (pe_ix ix_list (pv 5) pe_int (fun _ _ => rfl)) (pa_cons (pe_ix ix_list (pv 5) pe_int (fun _ _ => rfl)) (pa_cons pe_int (pa_cons pe_int pa_nil))))))) <|
      pss_cons (ps_expr (pe_meth (pv 7) T.clB m3 G3 hr b3 .nil passL (pa_cons (pe_ix ix_list (pv 6) pe_int (fun _ _ => rfl)) (pa_cons (pe_ix ix_list (pv 5) pe_int (fun _ _ => rfl)) (pa_cons (pe_ix ix_list (pv 5) pe_int (fun _ _ => rfl)) (pa_cons pe_int (pa_cons (pe_un un_neg pe_int) pa_nil))))))) <|
      pss_cons (ps_set (i := 8) nd rfl (Or.inl rfl) (pe_op op_add_str (pe_op op_add_str (pv 3) (pe_ix ix_str (pv 2) (pe_op op_mod (pe_op op_fdiv (pv 1) pe_int) pe_int) (fun _ _ => rfl))) pe_str)) <|
      pss_cons (ps_if (pt_cmpR op_notBl (pe_meth (pv 7) T.clB m4 G4 hr b4 .nil passL (pa_cons (pv 8) (pa_cons (pe_tup (pa_cons pe_str (pa_cons (pe_ix ix_list (pv 5) pe_int (fun _ _ => rfl)) (pa_cons (pe_ix ix_list (pv 5) pe_int (fun _ _ => rfl)) pa_nil)))) pa_nil))) pe_bl (nomark _)) pss_never pss_nil) <|
      pss_cons (ps_set (i := 9) nd rfl (Or.inl rfl) (pe_call G5 hr rfl g5 k5 b5 .nil passL (pa_cons (pv 7) pa_nil))) <|
      pss_cons (ps_for (passes_of rfl) rfl (pi_list (pe_op op_cat (pe_slice sl_list (pv 0) po_none (po_some pe_int)) (pe_lst (pa_cons (pv 1) pa_nil)))) (pg_name (i := 10) nd rfl (Or.inl rfl)) <|
        pss_cons (ps_set (i := 11) nd rfl (Or.inl rfl) (pe_call G6 hr rfl g6 k6 b6 .nil passL (pa_cons (pv 10) (pa_cons (pv 5) (pa_cons (pv 6) (pa_cons (pv 8) pa_nil)))))) <|
        pss_one (ps_if (PW.pt (pw_or (pt_cmpR (op_neD hu) (pe_call G7 hr rfl g7 k7 b7 .nil passL (pa_cons (pv 7) (pa_cons (pe_slice sl_tup (pv 11) po_none (po_some (pe_un un_neg pe_int))) pa_nil))) (pe_lst (pa_cons (pe_ix ix_tup (pv 11) (pe_un un_neg pe_int) (fun _ _ => rfl)) pa_nil)) (nomark _))
          (pw_or1 (pt_cmpR (op_neD hu) (pe_call G5 hr rfl g5 k5 b5 .nil passL (pa_cons (pv 7) pa_nil)) (pv 9) (nomark _))))) pss_never pss_nil)) <|
      pss_cons (ps_expr (pe_meth (pv 7) T.clB m4 G4 hr b4 .nil passL (pa_cons pe_str (pa_cons (pe_tup (pa_cons pe_str pa_nil)) pa_nil)))) <|
      pss_cons (ps_if (PW.pt (pw_or (pt_cmpR op_notBl (pe_meth (pv 7) T.clB m8 G8 hr b8 .nil passL (pa_cons pe_str pa_nil)) pe_bl (nomark _)) (pw_or1 (pt_cmpR (op_eqD hu) (pe_meth (pv 7) T.clB m9 G9 hr b9 .nil passL (pa_cons pe_str pa_nil)) (pe_lst pa_nil) (nomark _))))) pss_never pss_nil) <|
      pss_cons (ps_expr (pe_meth (pv 7) T.clB ma Ga hr ba .nil passL (pa_cons pe_str pa_nil))) <|
      pss_cons (ps_for (passes_of rfl) rfl (pi_list (pe_lst (pa_cons pe_str (pa_cons pe_str (pa_cons pe_str (pa_cons pe_str pa_nil)))))) (pg_name (i := 12) nd rfl (Or.inl rfl)) <|
        pss_one (ps_if (pt_cmpR (op_neD hu) (pe_call G7 hr rfl g7 k7 b7 .nil passL (pa_cons (pv 7) (pa_cons (pe_tup (pa_cons (pv 12) (pa_cons pe_str pa_nil))) pa_nil))) (pe_lst (pa_cons pe_str pa_nil)) (nomark _)) pss_never pss_nil)) <|
      pss_cons (ps_for (passes_of rfl) rfl (pi_range1 rfl T.range (pa_cons pe_int pa_nil)) (pg_name (i := 4) nd rfl (Or.inl rfl)) <|
        pss_one (ps_expr (pe_meth (pv 7) T.clB m2 G2 hr b2 .nil passL (pa_cons (pe_op op_add_str (pe_op op_add_str pe_str (pe_ix ix_str (pv 2) (pv 4) (fun _ _ => rfl))) pe_str) pa_nil)))) <|
      pss_cons (ps_if (pt_cmpR (op_neD hu) (pe_call G7 hr rfl g7 k7 b7 .nil passL (pa_cons (pv 7) (pa_cons (pe_tup (pa_cons pe_str (pa_cons pe_str pa_nil))) pa_nil))) (pe_lst (pa_cons pe_str pa_nil)) (nomark _)) pss_never pss_nil) <|
      pss_one (ps_ret (pe_cmpR (op_eqD hu) (pe_call G7 hr rfl g7 k7 b7 .nil passL (pa_cons (pv 7) (pa_cons (pe_tup (pa_cons pe_str (pa_cons pe_str (pa_cons (pe_ix ix_list (pv 5) pe_int (fun _ _ => rfl)) (pa_cons pe_str (pa_cons pe_int (pa_cons pe_int pa_nil))))))) pa_nil))) (pe_lst (pa_cons pe_str pa_nil)) (nomark _))), ?_⟩
    -- first, letters, head
    obtain ⟨first, hfirst⟩ : ∃ first : Int, (ns = [] ∧ first = 0) ∨ ∃ r, ns = first :: r := by
      cases ns with
      | nil => exact ⟨0, .inl ⟨rfl, rfl⟩⟩
      | cons x r => exact ⟨x, .inr ⟨r, rfl⟩⟩
    refine nx_norm (σ' := [some (.ref a), some (.int 0), none, none, none, none, none, none, none, none, none, none, none]) rfl ?_
    refine ⟨_, rfl, a, _, rfl, .inl hS, _, _, rfl, rfl, _, rfl, ?_⟩
    have h0 : decide (0 < ((ns.map V.int).length : Int)) = true → (ns.map V.int)[0]? = some (.int first) := fun e => by
      rcases hfirst with ⟨rfl, _⟩ | ⟨r, rfl⟩
      · cases e
      · rfl
    have h00 : decide (0 < ((ns.map V.int).length : Int)) = false → first = 0 := fun e => by
      rcases hfirst with ⟨_, h⟩ | ⟨r, rfl⟩
      · exact h
      · have h2 := of_decide_eq_false e
        rw [List.map_cons, List.length_cons] at h2
        omega
    refine if_same ?_ (fun e c => ⟨_, rfl, a, _, 0, _, rfl, rfl, hS, at_of (j := 0) rfl (h0 e), nx_norm (σ' := [some (.ref a), some (.int first), none, none, none, none, none, none, none, none, none, none, none]) rfl c⟩) (fun e c => by
      have z := h00 e
      subst z
      exact c)
    dsimp only
    refine nx_norm (σ' := [some (.ref a), some (.int first), some (.str letters), none, none, none, none, none, none, none, none, none, none]) rfl ?_
    obtain ⟨jh, hjh, ljh⟩ : ∃ j : Nat, first % 6 = j ∧ j < 6 := ⟨(first % 6).toNat, by omega, by omega⟩
    obtain ⟨hd, hhd⟩ : ∃ hd, hd = cutS "court" none (some (first % 6)) := ⟨_, rfl⟩
    have mhd : hd ∈ heads := by
      rw [hhd, hjh]
      exact head_in ljh
    have lhd := hd_len mhd
    refine ⟨_, rfl, _, _, rfl, rfl, (by show (0 : Int) < 6; decide), _, rfl, _, rfl, z1000 (by decide +kernel), ?_⟩
    refine nx_norm (σ' := [some (.ref a), some (.int first), some (.str letters), some (.str hd), none, none, none, none, none, none, none, none, none]) (by rw [hhd]; rfl) ?_
    -- places
    obtain ⟨np, hnp, lnp⟩ := np_of (first / 6)
    refine ⟨_, rfl, by decide, by decide, fun D1 hD1 => ?_⟩
    refine lc_it (walk_range (lo := 0) (n := 3)) (fun i H' => H' = upd H D1 (.lst ((List.range i).map fun k => V.str (plc hd (np k))))) rfl (fun _ _ _ _ => trivial) ?_ ?_
    · rintro i x H1 H2 hi rfl ⟨rfl, rfl⟩
      refine ⟨rfl, _, rfl, _, rfl, _, rfl, _, _, rfl, rfl, ⟨by decide, by decide⟩, _, rfl, _, _, rfl, rfl, _, _, rfl, rfl, (by show (0 : Int) < 26; decide), letters, _, _, rfl, rfl, letters_len, atN (hnp i) (letters_at (lnp i)), _, _, rfl, rfl, z1000 (by show hd.length + 1 ≤ 2000; omega), _, upd_same, ?_, ?_⟩
      · rw [List.length_map, List.length_range]
        exact small1000 (by omega)
      · show upd (upd H D1 _) D1 _ = upd H D1 _
        rw [upd_upd, List.range_succ, List.map_append]
        rfl
    rintro H1 rfl
    obtain ⟨p0, hp0⟩ : ∃ p, p = plc hd (np 0) := ⟨_, rfl⟩
    obtain ⟨p1, hp1⟩ : ∃ p, p = plc hd (np 1) := ⟨_, rfl⟩
    obtain ⟨p2, hp2⟩ : ∃ p, p = plc hd (np 2) := ⟨_, rfl⟩
    have s1 : Same H (upd H D1 (.lst ((List.range 3).map fun k => V.str (plc hd (np k))))) := Same.new hD1
    have e1 : upd H D1 (.lst ((List.range 3).map fun k => V.str (plc hd (np k)))) D1 = some (.lst [.str p0, .str p1, .str p2]) := by
      rw [upd_same, hp0, hp1, hp2]
      rfl
    generalize upd H D1 (.lst ((List.range 3).map fun k => V.str (plc hd (np k)))) = H1 at s1 e1 ⊢
    refine nx_norm (σ' := [some (.ref a), some (.int first), some (.str letters), some (.str hd), none, some (.ref D1), none, none, none, none, none, none, none]) rfl ?_
    -- ties
    obtain ⟨nt, hnt, lnt⟩ := np_of (first / 156)
    refine ⟨_, rfl, by decide, by decide, fun D2 hD2 => ?_⟩
    refine lc_it (walk_range (lo := 0) (n := 2)) (fun i H' => H' = upd H1 D2 (.lst ((List.range i).map fun k => V.str (tnm hd (nt k))))) rfl (fun _ _ _ _ => trivial) ?_ ?_
    · rintro i x H2 H3 hi rfl ⟨rfl, rfl⟩
      refine ⟨rfl, _, rfl, _, rfl, _, _, rfl, rfl, ⟨by decide, by decide⟩, _, rfl, _, _, rfl, rfl, _, _, rfl, rfl, (by show (0 : Int) < 26; decide), letters, _, _, rfl, rfl, letters_len, atN (hnt i) (letters_at (lnt i)), _, rfl, _, _, rfl, rfl, z1000 (by show 1 + hd.length ≤ 2000; omega), _, upd_same, ?_, ?_⟩
      · rw [List.length_map, List.length_range]
        exact small1000 (by omega)
      · show upd (upd H1 D2 _) D2 _ = upd H1 D2 _
        rw [upd_upd, List.range_succ, List.map_append]
        rfl
    rintro H2 rfl
    obtain ⟨t0, ht0⟩ : ∃ p, p = tnm hd (nt 0) := ⟨_, rfl⟩
    obtain ⟨t1, ht1⟩ : ∃ p, p = tnm hd (nt 1) := ⟨_, rfl⟩
    have s2 : Same H1 (upd H1 D2 (.lst ((List.range 2).map fun k => V.str (tnm hd (nt k))))) := Same.new hD2
    have e2 : upd H1 D2 (.lst ((List.range 2).map fun k => V.str (tnm hd (nt k)))) D2 = some (.lst [.str t0, .str t1]) := by
      rw [upd_same, ht0, ht1]
      rfl
    generalize upd H1 D2 (.lst ((List.range 2).map fun k => V.str (tnm hd (nt k)))) = H2 at s2 e2 ⊢
    refine nx_norm (σ' := [some (.ref a), some (.int first), some (.str letters), some (.str hd), none, some (.ref D1), some (.ref D2), none, none, none, none, none, none]) rfl ?_
    have e12 := s2 _ _ e1
    have hS2 := s2.seq (s1.seq hS)
    -- the texts
    obtain ⟨jn, hjn, ljn⟩ : ∃ j : Nat, first / 7 % 26 = j ∧ j < 26 := ⟨(first / 7 % 26).toNat, by omega, by omega⟩
    obtain ⟨name, hname⟩ : ∃ z, z = cnm hd jn := ⟨_, rfl⟩
    have d01 : np 0 ≠ np 1 := fun h => by have a := hnp 0; have b := hnp 1; omega
    have d12 : np 1 ≠ np 2 := fun h => by have a := hnp 1; have b := hnp 2; omega
    have d20 : np 2 ≠ np 0 := fun h => by have a := hnp 0; have b := hnp 2; omega
    have dt01 : nt 0 ≠ nt 1 := fun h => by have a := hnt 0; have b := hnt 1; omega
    have mp : ∀ z ∈ [p0, p1, p2], ∃ i, i < 26 ∧ z = plc hd i := fun z hz => by
      simp only [List.mem_cons, List.not_mem_nil, or_false] at hz
      rcases hz with rfl | rfl | rfl
      · exact ⟨_, lnp 0, hp0⟩
      · exact ⟨_, lnp 1, hp1⟩
      · exact ⟨_, lnp 2, hp2⟩
    have S : S3 p0 p1 p2 t0 t1 name := {
      np := fun z hz => by
        obtain ⟨i, hi, rfl⟩ := mp z hz
        exact (plc_ok mhd hi).1
      lp := ⟨hd.length, lhd, fun z hz => by
        obtain ⟨i, hi, rfl⟩ := mp z hz
        rw [len_add]
        rfl⟩
      qq := fun hz => by
        obtain ⟨i, hi, e⟩ := mp _ hz
        exact (plc_ok mhd hi).2.1 e.symm
      n01 := by rw [hp0, hp1]; exact fun h => d01 (plc_inj h)
      n12 := by rw [hp1, hp2]; exact fun h => d12 (plc_inj h)
      n20 := by rw [hp2, hp0]; exact fun h => d20 (plc_inj h)
      nt0 := by rw [ht0]; exact (tnm_ok mhd (lnt 0)).1
      nt1 := by rw [ht1]; exact (tnm_ok mhd (lnt 1)).1
      t01 := by rw [ht0, ht1]; exact fun h => dt01 (tnm_inj h)
      f0 := by rw [ht0]; exact (tnm_ok mhd (lnt 0)).2
      f1 := by rw [ht1]; exact (tnm_ok mhd (lnt 1)).2
      nn := by rw [hname]; exact (cnm_ok mhd ljn).1
      fn := by rw [hname]; exact (cnm_ok mhd ljn).2 }
    have zl : ∀ {z : Str}, isName z = true → z.length ≤ sizeLine := fun h => z1000 (by have := isName_len h; omega)
    have nP0 := S.np p0 (by simp)
    have nP1 := S.np p1 (by simp)
    have nP2 := S.np p2 (by simp)
    -- the book
    intro x dx nx ndx nex
    refine ⟨x, dx, rfl, upd_same, fun n k l nm st H3 B0 new0 sb0 => ⟨rfl, ?_⟩⟩
    have s3 : Same H2 H3 := fun b o e => sb0 b o (by rw [upd_ne (ne_of_none e nx), upd_ne (ne_of_none e ndx)]; exact e) (by simp [ne_of_none e nx])
    have new : ∀ y ∈ [k, l, nm, st], H2 y = none := fun y hy => by
      have h := new0 y hy
      have n1 : y ≠ x := fun z => by rw [z, upd_same] at h; cases h
      rw [upd_ne n1] at h
      have n2 : y ≠ dx := fun z => by rw [z, upd_same] at h; cases h
      rw [upd_ne n2] at h
      exact h
    have nb : ∀ {m : Str}, ¬ m = "held_net" → ¬ m = "names" → ¬ m = "stated" → (bF n nm st).lookup m = none := fun h1 h2 h3 => bF_no _ _ _ h1 h2 h3
    refine nx_norm (σ' := [some (.ref a), some (.int first), some (.str letters), some (.str hd), none, some (.ref D1), some (.ref D2), some (.ref x), none, none, none, none, none]) rfl ?_
    -- three places
    refine ⟨_, rfl, D1, rfl, ⟨_, SqL.of (s3 _ _ e12)⟩, for_list (K := K) (a := D1) (xs := [V.str p0, V.str p1, V.str p2]) (fun i σ H' => ∃ v8, σ = [some (.ref a), some (.int first), some (.str letters), some (.str hd), none, some (.ref D1), some (.ref D2), some (.ref x), v8, none, none, none, none] ∧
      BookIs K H' x n k l nm st ([p0, p1, p2].take i) [] [] ∧ Same H2 H') ⟨none, rfl, B0, s3⟩ (fun i σ H' _ ⟨_, _, _, s⟩ => SqL.of (s _ _ e12)) ?_ ?_⟩
    · rintro i z σ H4 hi ⟨v8, rfl, B, F⟩
      obtain ⟨z, hz, rfl⟩ : ∃ y, [p0, p1, p2][i]? = some y ∧ z = .str y := map_at (l := [p0, p1, p2]) hi
      have tk : [p0, p1, p2].take (i + 1) = [p0, p1, p2].take i ++ [z] := by rw [List.take_add_one, hz]; rfl
      have hil : i < 3 := (List.getElem?_eq_some_iff.mp hz).1
      have nz : isName z = true := S.np z (List.mem_of_getElem? hz)
      have nin : z ∉ [p0, p1, p2].take i := by
        have nod : [p0, p1, p2].Nodup := by simp [S.n01, S.n12, S.n20.symm]
        intro h
        obtain ⟨j, hj⟩ := List.mem_iff_getElem?.mp h
        rw [List.getElem?_take] at hj
        split at hj
        · rename_i hji
          have := nd_ix nod hj hz
          omega
        · cases hj
      have lti := List.length_take_le' i [p0, p1, p2]
      have lti2 : ([p0, p1, p2].take i).length ≤ 3 := lti
      have none_ : placeEr ([p0, p1, p2].take i) z = none := by
        unfold placeEr
        rw [if_neg (by rw [nz]; exact Bool.noConfusion), if_neg nin, if_neg (by omega)]
      obtain ⟨db, hb⟩ := B.ob
      refine ⟨_, rfl, x, db, _, rfl, hb, nb (by decide +kernel) (by decide +kernel) (by decide +kernel), _, rfl, x, n, k, l, nm, st, _, [], [], z, rfl, B, zl nz, by omega, fun e he => ?_, fun _ => ⟨isName_strOk nz, (fun _ h => nomatch h), fun v H5 sb B5 => ?_⟩⟩
      · rw [none_] at he
        cases he
      · rw [← tk] at B5
        exact ⟨_, rfl, B5, past F sb fun y hy => new y (by simp at hy; simp [hy])⟩
    rintro σ H4 ⟨v8, rfl, B, F⟩
    have B : BookIs K H4 x n k l nm st [p0, p1, p2] [] [] := B
    -- two ties
    obtain ⟨db, hb⟩ := B.ob
    have fr : ∀ {y z : Str}, y ∈ [p0, p1, p2] → z ∈ [p0, p1, p2] → freshOf [p0, p1, p2] [y, z] = [] := fun {y z} hy hz => by
      unfold freshOf
      rw [List.filter_cons_of_neg (by rw [decide_eq_true hy]; exact Bool.noConfusion), List.filter_cons_of_neg (by rw [decide_eq_true hz]; exact Bool.noConfusion), List.filter_nil]
    have te0 : tieEr [p0, p1, p2] [] t0 p0 p1 2 = none := by
      unfold tieEr
      rw [if_neg (by rw [S.nt0, nP0, nP1]; exact Bool.noConfusion), if_neg (by exact Bool.noConfusion), if_neg S.n01, if_neg (by decide), fr (by simp) (by simp), if_neg]
      intro h
      rcases h with h | h
      · exact absurd h (by show ¬ 40 ≤ 0; decide)
      · exact absurd h (by show ¬ 20 < 3 + 0; decide)
    have n1no : named [⟨t0, p0, p1, 2, 3⟩] t1 = none := by
      unfold named
      rw [List.find?_cons_of_neg (by rw [decide_eq_false S.t01]; exact Bool.noConfusion)]
      rfl
    have te1 : tieEr [p0, p1, p2] [⟨t0, p0, p1, 2, 3⟩] t1 p1 p2 1 = none := by
      unfold tieEr
      rw [if_neg (by rw [S.nt1, nP1, nP2]; exact Bool.noConfusion), if_neg (by rw [n1no]; exact Bool.noConfusion), if_neg S.n12, if_neg (by decide), fr (by simp) (by simp), if_neg]
      intro h
      rcases h with h | h
      · exact absurd h (by show ¬ 40 ≤ 1; decide)
      · exact absurd h (by show ¬ 20 < 3 + 0; decide)
    refine ⟨_, rfl, x, db, _, rfl, hb, nb (by decide +kernel) (by decide +kernel) (by decide +kernel), _, rfl, D2, _, 0, _, rfl, rfl, SqL.of (F _ _ e2), at_of (j := 0) rfl rfl, _, rfl, D1, _, 0, _, rfl, rfl, SqL.of (F _ _ e12), at_of (j := 0) rfl rfl, _, rfl, D1, _, 1, _, rfl, rfl, SqL.of (F _ _ e12), at_of (j := 1) rfl rfl,
      x, n, k, l, nm, st, _, [], [], t0, p0, p1, 2, 3, rfl, B, fun u hu => ?_, (by show 3 ≤ 1000; decide), (by show 0 ≤ 1000; decide), fun e he => ?_, fun _ => ⟨rfl, ⟨isName_strOk S.nt0, isName_strOk nP0, isName_strOk nP1⟩, fun v H5 sb5 B5 => ?_⟩⟩
    · simp only [List.mem_cons, List.not_mem_nil, or_false] at hu
      rcases hu with rfl | rfl | rfl
      · exact zl S.nt0
      · exact zl nP0
      · exact zl nP1
    · rw [te0] at he
      cases he
    rw [fr (by simp) (by simp)] at B5
    have B5 : BookIs K H5 x n k l nm st [p0, p1, p2] [⟨t0, p0, p1, 2, 3⟩] [] := B5
    have F5 : Same H2 H5 := past F sb5 fun y hy => new y (by simp only [List.mem_cons, List.not_mem_nil, or_false] at hy ⊢; rcases hy with h | h; exact .inl h; exact .inr (.inl h))
    obtain ⟨db5, hb5⟩ := B5.ob
    refine ⟨_, rfl, x, db5, _, rfl, hb5, nb (by decide +kernel) (by decide +kernel) (by decide +kernel), _, rfl, D2, _, 1, _, rfl, rfl, SqL.of (F5 _ _ e2), at_of (j := 1) rfl rfl, _, rfl, D1, _, 1, _, rfl, rfl, SqL.of (F5 _ _ e12), at_of (j := 1) rfl rfl, _, rfl, D1, _, 2, _, rfl, rfl, SqL.of (F5 _ _ e12), at_of (j := 2) rfl rfl,
      _, rfl, x, n, k, l, nm, st, _, _, [], t1, p1, p2, 1, -1, rfl, B5, fun u hu => ?_, (by show 3 ≤ 1000; decide), (by show 1 ≤ 1000; decide), fun e he => ?_, fun _ => ⟨rfl, ⟨isName_strOk S.nt1, isName_strOk nP1, isName_strOk nP2⟩, fun v H6 sb6 B6 => ?_⟩⟩
    · simp only [List.mem_cons, List.not_mem_nil, or_false] at hu
      rcases hu with rfl | rfl | rfl
      · exact zl S.nt1
      · exact zl nP1
      · exact zl nP2
    · rw [te1] at he
      cases he
    rw [fr (by simp) (by simp)] at B6
    have B6 : BookIs K H6 x n k l nm st [p0, p1, p2] (tsOf p0 p1 p2 t0 t1) [] := B6
    have F6 : Same H2 H6 := past F5 sb6 fun y hy => new y (by simp only [List.mem_cons, List.not_mem_nil, or_false] at hy ⊢; rcases hy with h | h; exact .inl h; exact .inr (.inl h))
    -- the claim's name
    have l1 : (hd ++ let1 jn : Str).length = hd.length + 1 := by rw [len_add]; rfl
    refine ⟨_, rfl, _, rfl, _, rfl, _, _, rfl, rfl, ⟨by decide, by decide⟩, _, _, rfl, rfl, (by show (0 : Int) < 26; decide), letters, _, _, rfl, rfl, letters_len, atN hjn (letters_at ljn), _, _, rfl, rfl, z1000 (by show hd.length + 1 ≤ 2000; omega), _, _, rfl, rfl, z1000 (by show (hd ++ let1 jn : Str).length + 1 ≤ 2000; omega), ?_⟩
    refine nx_norm (σ' := [some (.ref a), some (.int first), some (.str letters), some (.str hd), none, some (.ref D1), some (.ref D2), some (.ref x), some (.str name), none, none, none, none]) (by rw [hname]; rfl) ?_
    -- the claim
    obtain ⟨db6, hb6⟩ := B6.ob
    have nin0 : stranger [p0, p1, p2] [p0, p2] = none := by
      rw [stranger_in (by simp), stranger_in (by simp)]
      rfl
    refine ⟨_, rfl, x, db6, _, rfl, hb6, nb (by decide +kernel) (by decide +kernel) (by decide +kernel), _, rfl, _, rfl, D1, _, 0, _, rfl, rfl, SqL.of (F6 _ _ e12), at_of (j := 0) rfl rfl, _, rfl, D1, _, 2, _, rfl, rfl, SqL.of (F6 _ _ e12), at_of (j := 2) rfl rfl, (by show 3 ≤ sizeLine; decide), fun c1 hc1 => ?_⟩
    have s7 : Same H6 (upd H6 c1 (.tup [.str "way", .str p0, .str p2])) := Same.new hc1
    have e7 : upd H6 c1 (.tup [.str "way", .str p0, .str p2]) c1 = some (.tup [.str "way", .str p0, .str p2]) := upd_same
    generalize upd H6 c1 (.tup [.str "way", .str p0, .str p2]) = H7 at s7 e7 ⊢
    refine ⟨x, n, k, l, nm, st, _, _, [], name, _, .way p0 p2, rfl, B6.same s7, zl S.nn, (by show 0 ≤ 1000; decide), .tup (SqT.of e7) (DpAll.strs ["way", p0, p2]), (by show 0 < 4; decide), (by show 2 ≤ 1000; decide), fun e he => ?_, fun _ => ⟨["way", p0, p2], true, .list [.str t0, .str t1], rfl, (by show 3 ≤ 1000; decide), found_it S, fun H8 sb8 B8 => ?_⟩⟩
    · have z : stateEr [p0, p1, p2] [] name (.way p0 p2) = none := by
        unfold stateEr
        rw [if_neg (by rw [S.nn]; exact Bool.noConfusion), if_neg (by simp)]
        show (stranger _ [p0, p2]).map _ = none
        rw [nin0]
        rfl
      rw [show ([] : List Std).map Std.nm = [] from rfl, z] at he
      cases he
    obtain ⟨s1d, hs1d⟩ : ∃ s : Std, s = ⟨name, .way p0 p2, true, .list [.str t0, .str t1]⟩ := ⟨_, rfl⟩
    have B8 : BookIs K H8 x n k l nm st [p0, p1, p2] (tsOf p0 p1 p2 t0 t1) [s1d] := by rw [hs1d]; exact B8
    have F8 : Same H2 H8 := past (F6.trans s7) sb8 fun y hy => new y (by simp only [List.mem_cons, List.not_mem_nil, or_false] at hy ⊢; exact .inr (.inr hy))
    refine ⟨_, _, rfl, rfl, _, rfl, ifF rfl ?_⟩
    -- before
    have small : Small [p0, p1, p2] (tsOf p0 p1 p2 t0 t1) [s1d] := ⟨(by show 3 ≤ 1000; decide), (by show 2 ≤ 1000; decide), (by show 1 ≤ 1000; decide)⟩
    have nmd : [s1d].map Std.nm = [name] := by rw [hs1d]; rfl
    have nod1 : ([s1d].map Std.nm).Nodup := by rw [nmd]; simp
    have tell1 : ∀ s ∈ [s1d], s.tell := fun s hs => by
      simp only [List.mem_cons, List.not_mem_nil, or_false] at hs
      rw [hs, hs1d]
      refine ⟨⟨["way", p0, p2], rfl, (by show 3 ≤ 1000; decide)⟩, (by show 2 ≤ 1000; decide), fun d hd => ?_⟩
      simp only [List.mem_cons, List.not_mem_nil, or_false] at hd
      rcases hd with rfl | rfl <;> exact trivial
    have good1 : ∀ s ∈ [s1d], s.good (tsOf p0 p1 p2 t0 t1) := fun s hs => by
      simp only [List.mem_cons, List.not_mem_nil, or_false] at hs
      rw [hs, hs1d]
      exact ⟨p0, p2, [t0, t1], rfl, rfl, rfl, walk_it S⟩
    have okS : ∀ z ∈ [p0, p1, p2], PyData.strOk z = true := fun z hz => isName_strOk (S.np z hz)
    have shL : Sh 5 (lookD [p0, p1, p2] (tsOf p0 p1 p2 t0 t1) [s1d]) := by
      have a1 : Sh 4 (.list ([p0, p1, p2].map PyData.str)) := (sh_strs okS).mono (by decide)
      have a2 : Sh 4 (.list ((tsOf p0 p1 p2 t0 t1).map Tie.d)) := by
        refine (sh_list (sha_map fun t ht => sh_tie ?_)).mono (show 3 ≤ 4 by decide)
        unfold tsOf at ht
        simp only [List.mem_cons, List.not_mem_nil, or_false] at ht
        rcases ht with rfl | rfl
        · exact ⟨isName_strOk S.nt0, isName_strOk nP0, isName_strOk nP1⟩
        · exact ⟨isName_strOk S.nt1, isName_strOk nP1, isName_strOk nP2⟩
      have a3 : Sh 4 (.list (([s1d].map Std.nm).map PyData.str)) := by
        rw [nmd]
        exact (sh_strs fun z hz => by
          simp only [List.mem_cons, List.not_mem_nil, or_false] at hz
          rw [hz]
          exact isName_strOk S.nn).mono (by decide)
      have a4 : Sh 4 (.list ([s1d].map Std.d)) := by
        rw [hs1d]
        refine sh_list (sha_cons (sh_tup (sha_cons ((sh_tup (sha_cons ((sh_str (by decide +kernel))) (sha_cons (sh_str (isName_strOk nP0)) (sha_cons (sh_str (isName_strOk nP2)) sha_nil))))) (sha_cons (sh_bool.mono (by decide)) (sha_cons ((sh_list (sha_cons (sh_str (isName_strOk S.nt0)) (sha_cons (sh_str (isName_strOk S.nt1)) sha_nil)))) sha_nil)))) sha_nil)
      exact sh_tup (sha_cons a1 (sha_cons a2 (sha_cons a3 (sha_cons a4 sha_nil))))
    refine ⟨_, rfl, x, n, k, l, nm, st, _, _, [s1d], rfl, B8, small, nod1, tell1, fun vb H9 s9 hvb => ?_⟩
    refine nx_norm (σ' := [some (.ref a), some (.int first), some (.str letters), some (.str hd), none, some (.ref D1), some (.ref D2), some (.ref x), some (.str name), some vb, none, none, none]) rfl ?_
    have B9 := B8.same s9
    have F9 : Same H2 H9 := F8.trans s9
    -- the cells
    refine ⟨_, rfl, _, rfl, a, _, rfl, F9.seq hS2, fun q1 hq1 => ?_⟩
    have s10 : Same H9 (upd H9 q1 (.lst (cutV (ns.map V.int) none (some 60)))) := Same.new hq1
    have e10 : upd H9 q1 (.lst (cutV (ns.map V.int) none (some 60))) q1 = some (.lst (cutV (ns.map V.int) none (some 60))) := upd_same
    have lcut : (cutV (ns.map V.int) none (some 60)).length ≤ 63 := by
      have h := cutV_length (ns.map V.int) none (some 60)
      rw [List.length_map] at h
      omega
    have icut : ∀ y ∈ cutV (ns.map V.int) none (some 60), ∃ c, y = V.int c := fun y hy => by
      unfold cutV at hy
      have h := List.mem_of_mem_drop (List.mem_of_mem_take hy)
      obtain ⟨c, _, rfl⟩ := List.mem_map.mp h
      exact ⟨c, rfl⟩
    generalize upd H9 q1 (.lst (cutV (ns.map V.int) none (some 60))) = H10 at s10 e10 ⊢
    refine ⟨_, rfl, (by show 1 ≤ sizeLine; decide), fun q2 hq2 => ?_⟩
    have s11 : Same H10 (upd H10 q2 (.lst [.int first])) := Same.new hq2
    have e11 : upd H10 q2 (.lst [.int first]) q2 = some (.lst [.int first]) := upd_same
    generalize upd H10 q2 (.lst [.int first]) = H11 at s11 e11 ⊢
    refine ⟨q1, q2, _, _, rfl, rfl, s11 _ _ e10, e11, z1000 (by show _ + 1 ≤ 2000; omega), fun q3 hq3 => ?_⟩
    obtain ⟨cells, hcells⟩ : ∃ cells, cells = cutV (ns.map V.int) none (some 60) ++ [V.int first] := ⟨_, rfl⟩
    have icells : ∀ y ∈ cells, ∃ c, y = V.int c := fun y hy => by
      rw [hcells] at hy
      rcases List.mem_append.mp hy with h | h
      · exact icut y h
      · simp only [List.mem_cons, List.not_mem_nil, or_false] at h
        exact ⟨first, h⟩
    rw [← hcells]
    have s12 : Same H11 (upd H11 q3 (.lst cells)) := Same.new hq3
    have e12c : upd H11 q3 (.lst cells) q3 = some (.lst cells) := upd_same
    generalize upd H11 q3 (.lst cells) = H12 at s12 e12c ⊢
    have s912 : Same H9 H12 := s10.trans (s11.trans s12)
    have B12 := B9.same s912
    have F12 : Same H2 H12 := F9.trans s912
    have hvb12 := Dp.same s912 _ _ hvb
    refine ⟨q3, rfl, ⟨_, SqL.of e12c⟩, for_list (K := K) (a := q3) (xs := cells) (fun i σ H' => ∃ v10 v11, σ = [some (.ref a), some (.int first), some (.str letters), some (.str hd), none, some (.ref D1), some (.ref D2), some (.ref x), some (.str name), some vb, v10, v11, none] ∧ Same H12 H')
      ⟨none, none, rfl, Same.refl _⟩ (fun i σ H' _ ⟨_, _, _, s⟩ => SqL.of (s _ _ e12c)) ?_ ?_⟩
    · rintro i y σ H13 hi ⟨v10, v11, rfl, s13⟩
      obtain ⟨c, rfl⟩ := icells y (List.mem_of_getElem? hi)
      have F13 := F12.trans s13
      have B13 := B12.same s13
      refine ⟨_, rfl, _, rfl, _, rfl, _, rfl, c, D1, D2, name, p0, p1, p2, t0, t1, rfl, ⟨SqL.of (F13 _ _ e12), SqL.of (F13 _ _ e2)⟩, fun z hz => by have := isName_len (S.np z hz); omega, fun odd a' b' strange less m ho hab hl hs hm v H14 s14 hv => ?_⟩
      obtain ⟨hfit, hlen2, er, her, hew⟩ := menu_ok S ho hab hl hs hm
      obtain ⟨p, xs, rfl, hps, hxs⟩ := dp_tup hv
      obtain ⟨ys, y, rfl, hys, hy⟩ := dp_snoc hxs
      obtain rfl := dp_str hy
      refine ⟨_, rfl, _, rfl, _, rfl, _, rfl, p, _, rfl, hps, cut_whole ys _, fun t ht => ?_⟩
      have s15 : Same H14 (upd H14 t (.tup (cutV (ys ++ [V.str m.2]) none (some (-1))))) := Same.new ht
      have e15 : upd H14 t (.tup (cutV (ys ++ [V.str m.2]) none (some (-1)))) t = some (.tup ys) := by rw [upd_same, cut_last]
      generalize upd H14 t (.tup (cutV (ys ++ [V.str m.2]) none (some (-1)))) = H15 at s15 e15 ⊢
      have B15 := B13.same (s14.trans s15)
      refine ⟨x, n, k, l, nm, st, _, _, [s1d], .ref t, m.1, er, rfl, B15, small, .tup (SqT.of e15) (DpAll.same s15 _ _ hys), hfit, by rw [nmd]; exact her, by rw [hew]; exact z1000 (by omega), fun r H16 nr s16 hr16 => ?_⟩
      refine ⟨_, rfl, _, rfl, p, _, _, _, rfl, rfl, Same.seqT (s15.trans s16) hps, atI_last ys _, (by show 1 ≤ sizeLine; decide), fun r2 hr2 => ?_⟩
      have s17 : Same H16 (upd H16 r2 (.lst [.str m.2])) := Same.new hr2
      have e17 : upd H16 r2 (.lst [.str m.2]) r2 = some (.lst [.str m.2]) := upd_same
      generalize upd H16 r2 (.lst [.str m.2]) = H17 at s17 e17 ⊢
      have okw : PyData.strOk m.2 = true := menu_strOk (isName_strOk (S.np _ (pair_in hab))) hs hm
      have okl : SeqAt.shaped (.list [.str m.2]) = true := (sh_list (sha_cons (sh_str okw) sha_nil)).ok
      rw [hew] at hr16
      refine ⟨.list [.str m.2], .list [.str m.2], .lst (SqL.of (s17 _ _ hr16)) (.cons (.str _) .nil), .lst (SqL.of e17) (.cons (.str _) .nil), okl, okl, _, rfl, ifF (by rw [eqv_one]; rfl) ?_⟩
      have s1317 : Same H13 H17 := s14.trans (s15.trans (s16.trans s17))
      have B17 := B13.same s1317
      refine ⟨_, rfl, x, n, k, l, nm, st, _, _, [s1d], rfl, B17, small, nod1, tell1, fun v2 H18 s18 hv2 => ?_⟩
      refine ⟨_, rfl, _, _, hv2, Dp.same (s13.trans (s1317.trans s18)) _ _ hvb12, shL.ok, shL.ok, _, rfl, ifF (by rw [eqv_self shL]; rfl) ?_⟩
      exact ⟨_, _, rfl, s13.trans (s1317.trans s18)⟩
    rintro σ H20 ⟨v10, v11, rfl, s20⟩
    -- of no ring below nought
    have B20 := B12.same s20
    have F20 := F12.trans s20
    obtain ⟨db20, hb20⟩ := B20.ob
    refine ⟨_, rfl, x, db20, _, rfl, hb20, nb (by decide +kernel) (by decide +kernel) (by decide +kernel), (by show 1 ≤ sizeLine; decide), fun c2 hc2 => ?_⟩
    have s21 : Same H20 (upd H20 c2 (.tup [.str "ring"])) := Same.new hc2
    have e21 : upd H20 c2 (.tup [.str "ring"]) c2 = some (.tup [.str "ring"]) := upd_same
    generalize upd H20 c2 (.tup [.str "ring"]) = H21 at s21 e21 ⊢
    have hfn : ("fresh" : Str) ∉ [name] := by simpa using S.fn.symm
    refine ⟨x, n, k, l, nm, st, _, _, [s1d], "fresh", _, .ring, rfl, B20.same s21, zl fresh_name, (by show 1 ≤ 1000; decide), .tup (SqT.of e21) (DpAll.strs ["ring"]), (by show 0 < 4; decide), (by show 0 ≤ 1000; decide), fun e he => ?_, fun _ => ⟨["ring"], false, .list ([p0, p1, p2].map fun z => .list [.str z, .int (gRing p2 z)]), rfl, (by show 1 ≤ 1000; decide), ring_it S, fun H22 sb22 B22 => ?_⟩⟩
    · have z : stateEr [p0, p1, p2] [name] "fresh" .ring = none := by
        unfold stateEr
        rw [if_neg (by rw [fresh_name]; exact Bool.noConfusion), if_neg hfn]
        rfl
      rw [nmd, z] at he
      cases he
    obtain ⟨s2d, hs2d⟩ : ∃ s : Std, s = ⟨"fresh", .ring, false, .list ([p0, p1, p2].map fun z => .list [.str z, .int (gRing p2 z)])⟩ := ⟨_, rfl⟩
    rw [← hs2d] at B22
    have B22 : BookIs K H22 x n k l nm st [p0, p1, p2] (tsOf p0 p1 p2 t0 t1) [s1d, s2d] := B22
    have F22 : Same H2 H22 := past (F20.trans s21) sb22 fun y hy => new y (by simp only [List.mem_cons, List.not_mem_nil, or_false] at hy ⊢; exact .inr (.inr hy))
    have nmd2 : [s1d, s2d].map Std.nm = [name, "fresh"] := by rw [hs1d, hs2d]; rfl
    have hin2 : ("fresh" : Str) ∈ [s1d, s2d].map Std.nm := by rw [nmd2]; simp
    have at2 : ∀ j, firstAt ([s1d, s2d].map Std.nm) "fresh" j → j = 1 := fun j hj => by
      rw [nmd2] at hj
      have h := hj.1
      match j, h with
      | 0, h => exact absurd (Option.some.inj h) S.fn
      | 1, _ => rfl
    have at3 : ∀ j s, firstAt ([s1d, s2d].map Std.nm) "fresh" j → [s1d, s2d][j]? = some s → s = s2d := fun j s hj hs => by
      rw [at2 j hj] at hs
      exact (Option.some.inj hs).symm
    obtain ⟨db22, hb22⟩ := B22.ob
    refine ⟨_, rfl, x, db22, _, rfl, hb22, nb (by decide +kernel) (by decide +kernel) (by decide +kernel), x, n, k, l, nm, st, _, _, [s1d, s2d], "fresh", rfl, B22, fun h => absurd hin2 h, fun j s' hj hs' => ?_⟩
    obtain rfl := at3 j s' hj hs'
    unfold wVerdict
    refine ⟨s'.so, false, rfl, rfl, _, rfl, ifF (by rw [hs2d]; rfl) ?_⟩
    refine ⟨_, rfl, x, db22, _, rfl, hb22, nb (by decide +kernel) (by decide +kernel) (by decide +kernel), x, n, k, l, nm, st, _, _, [s1d, s'], "fresh", H22, [], rfl, B22, Same.refl _, (fun _ h => nomatch h), fun h => absurd hin2 h, fun j2 s'' hj2 hs2 => ?_⟩
    obtain rfl := at3 j2 s'' hj2 hs2
    have pap2 : papOk 2 s''.pap := by
      rw [hs2d]
      refine ⟨(by show 3 ≤ 1000; decide), fun d hd => ?_⟩
      obtain ⟨z, _, rfl⟩ := List.mem_map.mp hd
      refine ⟨(by show 2 ≤ 1000; decide), fun d hd => ?_⟩
      simp only [List.mem_cons, List.not_mem_nil, or_false] at hd
      rcases hd with rfl | rfl <;> exact trivial
    have shp : Sh 3 s''.pap := by
      rw [hs2d]
      exact sh_list (sha_map fun z hz => sh_list (sha_cons (sh_str (okS z hz)) (sha_cons sh_int sha_nil)))
    refine ⟨pap2, fun v23 H23 s23 hv23 => ?_⟩
    rw [hid_nil] at hv23
    refine ⟨(by show 0 ≤ sizeLine; decide), fun r24 hr24 => ?_⟩
    have s24 : Same H23 (upd H23 r24 (.lst [])) := Same.new hr24
    have e24 : upd H23 r24 (.lst []) r24 = some (.lst []) := upd_same
    generalize upd H23 r24 (.lst []) = H24 at s24 e24 ⊢
    refine ⟨s''.pap, .list [], Dp.same s24 _ _ hv23, .lst (SqL.of e24) .nil, shp.ok, rfl, _, rfl, ifF (by rw [hs2d]; rfl) ?_⟩
    -- forgotten
    have B24 := B22.same (s23.trans s24)
    have F24 := F22.trans (s23.trans s24)
    obtain ⟨db24, hb24⟩ := B24.ob
    refine ⟨_, rfl, x, db24, _, rfl, hb24, nb (by decide +kernel) (by decide +kernel) (by decide +kernel), x, n, k, l, nm, st, _, _, [s1d, s''], "fresh", rfl, B24, (by show 2 ≤ 1000; decide), fun h => absurd hin2 h, fun j3 hj3 v25 H25 sb25 B25 => ?_⟩
    rw [at2 j3 hj3] at B25
    have B25 : BookIs K H25 x n k l nm st [p0, p1, p2] (tsOf p0 p1 p2 t0 t1) [s1d] := B25
    have F25 : Same H2 H25 := past F24 sb25 fun y hy => new y (by simp only [List.mem_cons, List.not_mem_nil, or_false] at hy ⊢; exact .inr (.inr hy))
    -- four words
    refine ⟨(by show 4 ≤ sizeLine; decide), fun q4 hq4 => ?_⟩
    have s26 : Same H25 (upd H25 q4 (.lst [.str "forget", .str "claim", .str "verdict", .str "paper"])) := Same.new hq4
    have e26 : upd H25 q4 (.lst [.str "forget", .str "claim", .str "verdict", .str "paper"]) q4 = some (.lst ((["forget", "claim", "verdict", "paper"] : List Str).map V.str)) := upd_same
    generalize upd H25 q4 (.lst [.str "forget", .str "claim", .str "verdict", .str "paper"]) = H26 at s26 e26 ⊢
    have okC : ∀ {w : Str}, w ∈ [("claim" : Str), "many"] → SeqAt.shaped (.list [.str w]) = true := fun {w} hw => by
      simp only [List.mem_cons, List.not_mem_nil, or_false] at hw
      rcases hw with rfl | rfl <;> exact (sh_list (sha_cons (sh_str (by decide +kernel)) sha_nil)).ok
    refine ⟨q4, rfl, ⟨_, SqL.of e26⟩, for_list (K := K) (a := q4) (xs := (["forget", "claim", "verdict", "paper"] : List Str).map V.str) (fun i σ H' => ∃ v12, σ = [some (.ref a), some (.int first), some (.str letters), some (.str hd), none, some (.ref D1), some (.ref D2), some (.ref x), some (.str name), some vb, v10, v11, v12] ∧ Same H26 H')
      ⟨none, rfl, Same.refl _⟩ (fun i σ H' _ ⟨_, _, s⟩ => SqL.of (s _ _ e26)) ?_ ?_⟩
    · rintro i y σ H27 hi ⟨v12, rfl, s27⟩
      obtain ⟨wd, hwd, rfl⟩ := map_at hi
      obtain ⟨d, hd, hfit, her⟩ : ∃ d : Deed, d.ds = [.str wd, .str "fresh"] ∧ d.fit ∧ d.er [p0, p1, p2] (tsOf p0 p1 p2 t0 t1) [name] = some .claim := by
        have hm := List.mem_of_getElem? hwd
        simp only [List.mem_cons, List.not_mem_nil, or_false] at hm
        rcases hm with rfl | rfl | rfl | rfl
        · exact ⟨.forget "fresh", rfl, trivial, if_neg hfn⟩
        · exact ⟨.claim "fresh", rfl, trivial, if_neg hfn⟩
        · exact ⟨.verdict "fresh", rfl, trivial, if_neg hfn⟩
        · exact ⟨.paper "fresh", rfl, trivial, if_neg hfn⟩
      refine ⟨_, rfl, _, rfl, (by show 2 ≤ sizeLine; decide), fun t ht => ?_⟩
      have s28 : Same H27 (upd H27 t (.tup [.str wd, .str "fresh"])) := Same.new ht
      have e28 : upd H27 t (.tup [.str wd, .str "fresh"]) t = some (.tup [.str wd, .str "fresh"]) := upd_same
      generalize upd H27 t (.tup [.str wd, .str "fresh"]) = H28 at s28 e28 ⊢
      refine ⟨x, n, k, l, nm, st, _, _, [s1d], .ref t, d, .claim, rfl, B25.same (s26.trans (s27.trans s28)), small, by rw [hd]; exact .tup (SqT.of e28) (DpAll.strs [wd, "fresh"]), hfit, by rw [nmd]; exact her, z1000 (by decide +kernel), fun r H29 nr s29 hr29 => ?_⟩
      refine ⟨(by show 1 ≤ sizeLine; decide), fun r2 hr2 => ?_⟩
      have s30 : Same H29 (upd H29 r2 (.lst [.str "claim"])) := Same.new hr2
      have e30 : upd H29 r2 (.lst [.str "claim"]) r2 = some (.lst [.str "claim"]) := upd_same
      generalize upd H29 r2 (.lst [.str "claim"]) = H30 at s30 e30 ⊢
      refine ⟨.list [.str "claim"], .list [.str "claim"], .lst (xs := [.str "claim"]) (SqL.of (s30 _ _ hr29)) (.cons (.str _) .nil), .lst (SqL.of e30) (.cons (.str _) .nil), okC (by simp), okC (by simp), _, rfl, ifF (by rw [eqv_one]; rfl) ?_⟩
      exact ⟨_, rfl, s27.trans (s28.trans (s29.trans s30))⟩
    rintro σ H31 ⟨v12, rfl, s31⟩
    have B31 := B25.same (s26.trans s31)
    have F31 := F25.trans (s26.trans s31)
    -- seventeen places
    refine ⟨_, rfl, by decide, by decide, ?_⟩
    refine for_it (walk_range (lo := 0) (n := 17)) (fun i σ H' => ∃ v4, σ = [some (.ref a), some (.int first), some (.str letters), some (.str hd), v4, some (.ref D1), some (.ref D2), some (.ref x), some (.str name), some vb, v10, v11, v12] ∧
      BookIs K H' x n k l nm st ([p0, p1, p2] ++ (List.range i).map zn) (tsOf p0 p1 p2 t0 t1) [s1d] ∧ Same H2 H') ⟨none, rfl, by simpa using B31, F31⟩ (fun _ _ _ _ _ => trivial) ?_ ?_
    · rintro i y σ H32 H33 hi ⟨v4, rfl, B, F⟩ ⟨rfl, rfl⟩
      obtain ⟨db, hb⟩ := B.ob
      have i26 : i < 26 := by omega
      obtain ⟨nz, _⟩ := zn_ok i26
      have nin : zn i ∉ [p0, p1, p2] ++ (List.range i).map zn := fun h => by
        rcases List.mem_append.mp h with h | h
        · obtain ⟨j, hj, e⟩ := mp _ h
          exact zn_plc mhd hj i26 e
        · obtain ⟨j, hj, e⟩ := List.mem_map.mp h
          have := zn_inj e
          rw [List.mem_range] at hj
          omega
      have lps : ([p0, p1, p2] ++ (List.range i).map zn).length = 3 + i := by
        rw [List.length_append, List.length_map, List.length_range]
        rfl
      have none_ : placeEr ([p0, p1, p2] ++ (List.range i).map zn) (zn i) = none := by
        unfold placeEr
        rw [if_neg (by rw [nz]; exact Bool.noConfusion), if_neg nin, if_neg (by omega)]
      have i0 : (0 + (i : Int)) = ((i : Nat) : Int) := by omega
      have lz1 : ("z" : Str).length + (let1 i).length ≤ sizeLine := z1000 (by show ("z" : Str).length + 1 ≤ 2000; decide +kernel)
      have lz2 : (("z" : Str) ++ let1 i : Str).length + ("zz" : Str).length ≤ sizeLine := by
        rw [len_add]
        exact z1000 (by show ("z" : Str).length + 1 + ("zz" : Str).length ≤ 2000; decide +kernel)
      refine ⟨_, rfl, x, db, _, rfl, hb, nb (by decide +kernel) (by decide +kernel) (by decide +kernel), _, rfl, _, rfl, letters, _, _, rfl, rfl, letters_len, atN i0 (letters_at i26), _, _, rfl, rfl, lz1, _, _, rfl, rfl, lz2, x, n, k, l, nm, st, _, _, [s1d], zn i, rfl, B, zl nz, by omega, fun e he => ?_, fun _ => ⟨isName_strOk nz, good1, fun v H34 sb34 B34 => ?_⟩⟩
      · rw [none_] at he
        cases he
      · refine ⟨_, rfl, ?_, past F sb34 fun y hy => new y (by simp at hy; simp [hy])⟩
        rw [List.range_succ, List.map_append, ← List.append_assoc]
        exact B34
    rintro σ H35 ⟨v4, rfl, B35, F35⟩
    obtain ⟨ps, hps⟩ : ∃ ps, ps = [p0, p1, p2] ++ (List.range 17).map zn := ⟨_, rfl⟩
    have lps : ps.length = 20 := by
      rw [hps, List.length_append, List.length_map, List.length_range]
      rfl
    have B35 : BookIs K H35 x n k l nm st ps (tsOf p0 p1 p2 t0 t1) [s1d] := by rw [hps]; exact B35
    have small2 : Small ps (tsOf p0 p1 p2 t0 t1) [s1d] := ⟨by rw [lps]; decide, (by show 2 ≤ 1000; decide), (by show 1 ≤ 1000; decide)⟩
    have noA : ("another" : Str) ∉ ps := fun h => by
      rw [hps] at h
      rcases List.mem_append.mp h with h | h
      · obtain ⟨j, hj, e⟩ := mp _ h
        exact (plc_ok mhd hj).2.2 e.symm
      · obtain ⟨j, hj, e⟩ := List.mem_map.mp h
        rw [List.mem_range] at hj
        exact (zn_ok (by omega)).2 e
    have nmA : isName "another" = true := by decide +kernel
    have p0in : p0 ∈ ps := by rw [hps]; simp
    have p0A : p0 ≠ "another" := fun h => noA (h ▸ p0in)
    have erA : placeEr ps "another" = some .many := by
      unfold placeEr
      rw [if_neg (by rw [nmA]; exact Bool.noConfusion), if_neg noA, if_pos (by omega)]
    have erT : tieEr ps (tsOf p0 p1 p2 t0 t1) "fresh" p0 "another" 1 = some .many := by
      unfold tieEr
      rw [if_neg (by rw [fresh_name, nP0, nmA]; exact Bool.noConfusion), if_neg (by rw [named_no S.f0 S.f1]; exact Bool.noConfusion), if_neg p0A, if_neg (by decide), if_pos]
      refine .inr ?_
      unfold freshOf
      rw [List.filter_cons_of_neg (by rw [decide_eq_true p0in]; exact Bool.noConfusion), List.filter_cons_of_pos (by rw [decide_eq_false noA]; rfl), List.filter_nil, lps]
      decide
    refine ⟨_, rfl, (by show 2 ≤ sizeLine; decide), fun t ht => ?_⟩
    have s36 : Same H35 (upd H35 t (.tup [.str "place", .str "another"])) := Same.new ht
    have e36 : upd H35 t (.tup [.str "place", .str "another"]) t = some (.tup [.str "place", .str "another"]) := upd_same
    generalize upd H35 t (.tup [.str "place", .str "another"]) = H36 at s36 e36 ⊢
    refine ⟨x, n, k, l, nm, st, _, _, [s1d], .ref t, .place "another", .many, rfl, B35.same s36, small2, .tup (SqT.of e36) (DpAll.strs ["place", "another"]), zl nmA, erA, z1000 (by decide +kernel), fun r H37 nr s37 hr37 => ?_⟩
    refine ⟨(by show 1 ≤ sizeLine; decide), fun r2 hr2 => ?_⟩
    have s38 : Same H37 (upd H37 r2 (.lst [.str "many"])) := Same.new hr2
    have e38 : upd H37 r2 (.lst [.str "many"]) r2 = some (.lst [.str "many"]) := upd_same
    generalize upd H37 r2 (.lst [.str "many"]) = H38 at s38 e38 ⊢
    refine ⟨.list [.str "many"], .list [.str "many"], .lst (xs := [.str "many"]) (SqL.of (s38 _ _ hr37)) (.cons (.str _) .nil), .lst (SqL.of e38) (.cons (.str _) .nil), okC (by simp), okC (by simp), _, rfl, ifF (by rw [eqv_one]; rfl) ?_⟩
    have s3538 : Same H35 H38 := s36.trans (s37.trans s38)
    refine ⟨_, rfl, _, rfl, D1, _, 0, _, rfl, rfl, SqL.of (s3538 _ _ (F35 _ _ e12)), at_of (j := 0) rfl rfl, (by show 6 ≤ sizeLine; decide), fun t2 ht2 => ?_⟩
    have s39 : Same H38 (upd H38 t2 (.tup [.str "tie", .str "fresh", .str p0, .str "another", .int 1, .int 1])) := Same.new ht2
    have e39 : upd H38 t2 (.tup [.str "tie", .str "fresh", .str p0, .str "another", .int 1, .int 1]) t2 = some (.tup [.str "tie", .str "fresh", .str p0, .str "another", .int 1, .int 1]) := upd_same
    generalize upd H38 t2 (.tup [.str "tie", .str "fresh", .str p0, .str "another", .int 1, .int 1]) = H39 at s39 e39 ⊢
    refine ⟨x, n, k, l, nm, st, _, _, [s1d], .ref t2, .tie "fresh" p0 "another" 1 1, .many, rfl, B35.same (s3538.trans s39), small2, .tup (SqT.of e39) (.cons (.str _) (.cons (.str _) (.cons (.str _) (.cons (.str _) (.cons (.int _) (.cons (.int _) .nil)))))), fun u hu => ?_, erT, z1000 (by decide +kernel), fun r3 H40 nr3 s40 hr40 => ?_⟩
    · simp only [List.mem_cons, List.not_mem_nil, or_false] at hu
      rcases hu with rfl | rfl | rfl
      · exact zl fresh_name
      · exact zl nP0
      · exact zl nmA
    refine ⟨(by show 1 ≤ sizeLine; decide), fun r4 hr4 => ?_⟩
    have s41 : Same H40 (upd H40 r4 (.lst [.str "many"])) := Same.new hr4
    have e41 : upd H40 r4 (.lst [.str "many"]) r4 = some (.lst [.str "many"]) := upd_same
    generalize upd H40 r4 (.lst [.str "many"]) = H41 at s41 e41 ⊢
    refine ⟨.list [.str "many"], .list [.str "many"], .lst (xs := [.str "many"]) (SqL.of (s41 _ _ hr40)) (.cons (.str _) .nil), .lst (SqL.of e41) (.cons (.str _) .nil), okC (by simp), okC (by simp), ?_⟩
    show Q (.bl (PyData.eqv (.list [.str "many"]) (.list [.str "many"]))) H41
    rw [eqv_one]
    exact q H41
end
end Nc
end

section
set_option maxHeartbeats 0
namespace Nc
open PySem PySem.Spec PyProof.Rows L2
/-! the end -/
/-- the law lets nothing out -/
theorem law_none {P : Program} {w : World} {K : PySem.W.Frag} {mg : Str → Option Value} {base : Heap} {k : Nat} {f : Addr} {fd : FuncData} (F : FnOk P w K mg base (L2.CX P w) k f fd ["_law_script"] (spLaw K)) : FnOk P w K mg base CX0 k f fd ["_law_script"] (spLaw K) :=
  ⟨F.len, fun A outer s H args us vs Q E hr he hb hv hs => codeAny_mono (F.run A outer s H args us vs Q (fun _ _ _ => False) hr he hb hv hs) fun r s' z => by
    match r, z with
    | .ok (.ret u), z => exact z
    | .ok .next, z => exact z.elim
    | .ok .brk, z => exact z.elim
    | .ok .cont, z => exact z.elim
    | .error e, ⟨_, _, _, _, _, _, _, _, _, _, _, _, h⟩ => exact h.elim⟩
theorem law_facts {P : Program} {w : World} {K : PySem.W.Frag} {h : Heap} {mg : Str → Option Value} {f : Addr} (c : NcHd.Says K) (X : K.In h) (G : h.Ns mainGlobals mg) (hfa : mg ("law" : Str) = some (.ref f)) :
    ∃ fd : FuncData, (∀ (s : Shared) (v : Value), BindsTo s fd ⟨[v], []⟩ [("_law_script", v)]) ∧ ∀ base : Heap, K.In base → base.Ns mainGlobals mg → FnOk P w K mg base CX0 12 f fd ["_law_script"] (spLaw K) := by
  have T : Txt K mg := NcHd.txt_of c X G
  obtain ⟨f', fd, F, g⟩ := T.law
  have e : f' = f := by
    rw [g] at hfa
    injection hfa with hfa
    injection hfa
  subst e
  have b := FunD.bindsA (ps := ["_law_script"]) F fun _ _ _ _ _ _ us hl => match us, hl with | [_], _ => rfl
  exact ⟨fd, fun s v => b s [v] rfl, fun base _ _ => law_none (ok_law T F)⟩
end Nc
open PySem PySem.W PySem.Calls PyProof.Rows
theorem PySem.Challenge.cw_netcourt_k92_books_refuse_holds : PySem.Challenge.rw_netcourt_k92_books_refuse.Holds := by
  w_on; o_law
  refine HandSHeadRun.head_any (r := OpenLaw.row PySem.Challenge.rw_netcourt_k92_books_refuse) (q := view (OpenLaw.row PySem.Challenge.rw_netcourt_k92_books_refuse).prog [123]) (H := NcHd.hk) (ob := NcHd.ob) (M := 20000) (loose := NcHd.names) (d := HandSHeadRun.topDef (OpenLaw.row PySem.Challenge.rw_netcourt_k92_books_refuse).prog 123) (kwd := []) NcHd.ob_eq
    (by kernel_rfl) (fun s => by kernel_rfl) NcHd.run (by kernel_rfl) (by kernel_rfl) (by kernel_rfl) (by rfl) (by first | assumption | decide +kernel) (by decide +kernel) ⟨rfl, rfl, rfl, rfl, rfl, by decide +kernel⟩ ?hw ?hc
  case hw => w_witness2
  case hc =>
    refine L2.walk_ofE (l := PySem.Challenge.rw_netcourt_k92_books_refuse) (n := 63) (k := 12) (x := "_law_script") (CX := L2.CX0) rfl (by decide) (by kernel_rfl) ⟨rfl, by decide, by decide⟩ ?F (fun _ _ _ _ z => z)
    intro w mg fa h Y G hmg0
    obtain ⟨K, KX, c⟩ := Y
    have hmg : mg ("law" : PySem.Str) = some (.ref fa) := by
      have e : (HandSHeadRun.topDef (OpenLaw.row PySem.Challenge.rw_netcourt_k92_books_refuse).prog 123).name = ("law" : PySem.Str) := by kernel_rfl
      rw [← e]
      exact hmg0
    obtain ⟨fd, hb, hF⟩ := Nc.law_facts (P := (PySem.Challenge.rw_netcourt_k92_books_refuse).prog) (w := w) c KX G hmg
    exact ⟨K, fd, Nc.spLaw K, KX, hb, fun H a ns hl _ hS => ⟨a, ns, rfl, hl, hS, fun _ => rfl⟩, hF⟩
end
