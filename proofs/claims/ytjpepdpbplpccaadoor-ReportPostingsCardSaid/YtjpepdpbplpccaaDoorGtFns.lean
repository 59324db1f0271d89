import Derived.Test.YtjpepdpbplpccaaDoorGp24
import Derived.Test.YtjpepdpbplpccaaDoorProg
open Go Go.GP
set_option linter.unusedVariables false
namespace Gt
set_option maxRecDepth 100000
noncomputable section
def bodyOf (f : Func) : Code := match f.body with | some c => c | none => .skip
def tt : List (Nat × TI) := [
  (3, ⟨1, 8, (.int .i64), some (.int .i64), [.i .i64 0]⟩),
  (5, ⟨1, 1, (.int .u8), some (.int .u8), [.i .u8 0]⟩),
  (9, ⟨1, 16, .str, some .str, [.s []]⟩),
  (22, ⟨1, 24, (.sl 57), some (.sl (.prod .str (.sl .str))), [.nl]⟩),
  (23, ⟨1, 24, (.sl 62), some (.sl (.prod .str (.prod (.prod (.int .i64) (.int .i64)) (.prod (.prod (.int .i64) (.int .i64)) (.sl (.prod (.prod (.int .i64) (.int .i64)) (.prod (.int .i64) (.prod (.int .i64) (.int .i64))))))))), [.nl]⟩),
  (24, ⟨1, 24, (.sl 66), some (.sl (.prod .str (.prod (.int .i64) (.prod (.sl (.prod .str (.prod (.int .i64) (.int .i64)))) (.prod (.sl (.prod .str (.prod (.int .i64) (.int .i64)))) (.sl (.prod .str (.prod (.int .i64) (.prod (.int .i64) (.prod (.int .i64) (.prod (.prod (.int .i64) (.int .i64)) (.prod (.sl (.prod (.int .i64) (.int .i64))) (.prod (.sl (.prod (.int .i64) (.int .i64))) .str))))))))))))), [.nl]⟩),
  (26, ⟨3, 72, (.struct [(22, 0), (23, 1), (24, 2)]), some (.prod (.sl (.prod .str (.sl .str))) (.prod (.sl (.prod .str (.prod (.prod (.int .i64) (.int .i64)) (.prod (.prod (.int .i64) (.int .i64)) (.sl (.prod (.prod (.int .i64) (.int .i64)) (.prod (.int .i64) (.prod (.int .i64) (.int .i64))))))))) (.sl (.prod .str (.prod (.int .i64) (.prod (.sl (.prod .str (.prod (.int .i64) (.int .i64)))) (.prod (.sl (.prod .str (.prod (.int .i64) (.int .i64)))) (.sl (.prod .str (.prod (.int .i64) (.prod (.int .i64) (.prod (.int .i64) (.prod (.prod (.int .i64) (.int .i64)) (.prod (.sl (.prod (.int .i64) (.int .i64))) (.prod (.sl (.prod (.int .i64) (.int .i64))) .str))))))))))))))), [.nl, .nl, .nl]⟩),
  (27, ⟨1, 24, (.sl 72), some (.sl (.prod (.int .i64) (.prod (.int .i64) (.int .i64)))), [.nl]⟩),
  (28, ⟨1, 24, (.sl 3), some (.sl (.int .i64)), [.nl]⟩),
  (29, ⟨1, 24, (.sl 69), some (.sl (.prod (.sl (.prod (.int .i64) (.prod (.int .i64) (.int .i64)))) (.sl (.int .i64)))), [.nl]⟩),
  (31, ⟨3, 72, (.struct [(27, 0), (28, 1), (29, 2)]), some (.prod (.sl (.prod (.int .i64) (.prod (.int .i64) (.int .i64)))) (.prod (.sl (.int .i64)) (.sl (.prod (.sl (.prod (.int .i64) (.prod (.int .i64) (.int .i64)))) (.sl (.int .i64)))))), [.nl, .nl, .nl]⟩),
  (36, ⟨1, 24, (.sl 9), some (.sl .str), [.nl]⟩),
  (39, ⟨1, 8, (.int .i64), some (.int .i64), [.i .i64 0]⟩),
  (41, ⟨4, 32, (.struct [(39, 0), (3, 1), (3, 2), (3, 3)]), some (.prod (.int .i64) (.prod (.int .i64) (.prod (.int .i64) (.int .i64)))), [.i .i64 0, .i .i64 0, .i .i64 0, .i .i64 0]⟩),
  (44, ⟨1, 24, (.sl 47), some (.sl (.prod (.int .i64) (.prod (.int .i64) (.prod (.int .i64) (.int .i64))))), [.nl]⟩),
  (47, ⟨4, 32, (.struct [(3, 0), (3, 1), (3, 2), (3, 3)]), some (.prod (.int .i64) (.prod (.int .i64) (.prod (.int .i64) (.int .i64)))), [.i .i64 0, .i .i64 0, .i .i64 0, .i .i64 0]⟩),
  (53, ⟨1, 24, (.sl 74), some (.sl (.prod (.int .i64) (.prod (.int .i64) (.prod (.int .i64) (.int .i64))))), [.nl]⟩),
  (57, ⟨2, 40, (.struct [(9, 0), (36, 1)]), some (.prod .str (.sl .str)), [.s [], .nl]⟩),
  (59, ⟨2, 16, (.struct [(3, 0), (3, 1)]), some (.prod (.int .i64) (.int .i64)), [.i .i64 0, .i .i64 0]⟩),
  (60, ⟨1, 24, (.sl 162), some (.sl (.prod (.prod (.int .i64) (.int .i64)) (.prod (.int .i64) (.prod (.int .i64) (.int .i64))))), [.nl]⟩),
  (62, ⟨6, 72, (.struct [(9, 0), (59, 1), (59, 3), (60, 5)]), some (.prod .str (.prod (.prod (.int .i64) (.int .i64)) (.prod (.prod (.int .i64) (.int .i64)) (.sl (.prod (.prod (.int .i64) (.int .i64)) (.prod (.int .i64) (.prod (.int .i64) (.int .i64)))))))), [.s [], .i .i64 0, .i .i64 0, .i .i64 0, .i .i64 0, .nl]⟩),
  (63, ⟨1, 24, (.sl 89), some (.sl (.prod .str (.prod (.int .i64) (.int .i64)))), [.nl]⟩),
  (64, ⟨1, 24, (.sl 94), some (.sl (.prod .str (.prod (.int .i64) (.prod (.int .i64) (.prod (.int .i64) (.prod (.prod (.int .i64) (.int .i64)) (.prod (.sl (.prod (.int .i64) (.int .i64))) (.prod (.sl (.prod (.int .i64) (.int .i64))) .str)))))))), [.nl]⟩),
  (66, ⟨5, 96, (.struct [(9, 0), (3, 1), (63, 2), (63, 3), (64, 4)]), some (.prod .str (.prod (.int .i64) (.prod (.sl (.prod .str (.prod (.int .i64) (.int .i64)))) (.prod (.sl (.prod .str (.prod (.int .i64) (.int .i64)))) (.sl (.prod .str (.prod (.int .i64) (.prod (.int .i64) (.prod (.int .i64) (.prod (.prod (.int .i64) (.int .i64)) (.prod (.sl (.prod (.int .i64) (.int .i64))) (.prod (.sl (.prod (.int .i64) (.int .i64))) .str)))))))))))), [.s [], .i .i64 0, .nl, .nl, .nl]⟩),
  (69, ⟨2, 48, (.struct [(27, 0), (28, 1)]), some (.prod (.sl (.prod (.int .i64) (.prod (.int .i64) (.int .i64)))) (.sl (.int .i64))), [.nl, .nl]⟩),
  (72, ⟨3, 24, (.struct [(3, 0), (3, 1), (3, 2)]), some (.prod (.int .i64) (.prod (.int .i64) (.int .i64))), [.i .i64 0, .i .i64 0, .i .i64 0]⟩),
  (74, ⟨4, 32, (.struct [(3, 0), (3, 1), (3, 2), (3, 3)]), some (.prod (.int .i64) (.prod (.int .i64) (.prod (.int .i64) (.int .i64)))), [.i .i64 0, .i .i64 0, .i .i64 0, .i .i64 0]⟩),
  (89, ⟨3, 32, (.struct [(9, 0), (59, 1)]), some (.prod .str (.prod (.int .i64) (.int .i64))), [.s [], .i .i64 0, .i .i64 0]⟩),
  (91, ⟨2, 16, (.struct [(3, 0), (3, 1)]), some (.prod (.int .i64) (.int .i64)), [.i .i64 0, .i .i64 0]⟩),
  (92, ⟨1, 24, (.sl 164), some (.sl (.prod (.int .i64) (.int .i64))), [.nl]⟩),
  (94, ⟨9, 120, (.struct [(9, 0), (3, 1), (3, 2), (3, 3), (91, 4), (92, 6), (92, 7), (9, 8)]), some (.prod .str (.prod (.int .i64) (.prod (.int .i64) (.prod (.int .i64) (.prod (.prod (.int .i64) (.int .i64)) (.prod (.sl (.prod (.int .i64) (.int .i64))) (.prod (.sl (.prod (.int .i64) (.int .i64))) .str))))))), [.s [], .i .i64 0, .i .i64 0, .i .i64 0, .i .i64 0, .i .i64 0, .nl, .nl, .s []]⟩),
  (96, ⟨1, 8, (.int .u64), some (.int .u64), [.i .u64 0]⟩),
  (100, ⟨1, 24, (.sl 5), some (.sl (.int .u8)), [.nl]⟩),
  (108, ⟨1, 8, (.int .u64), some (.int .u64), [.i .u64 0]⟩),
  (112, ⟨1, 8, (.ptr 114), none, []⟩),
  (114, ⟨2, 32, (.struct [(112, 0), (100, 1)]), none, []⟩),
  (145, ⟨12, 96, (.arr 12 3), none, [.i .i64 0, .i .i64 0, .i .i64 0, .i .i64 0, .i .i64 0, .i .i64 0, .i .i64 0, .i .i64 0, .i .i64 0, .i .i64 0, .i .i64 0, .i .i64 0]⟩),
  (162, ⟨5, 40, (.struct [(91, 0), (3, 2), (3, 3), (3, 4)]), some (.prod (.prod (.int .i64) (.int .i64)) (.prod (.int .i64) (.prod (.int .i64) (.int .i64)))), [.i .i64 0, .i .i64 0, .i .i64 0, .i .i64 0, .i .i64 0]⟩),
  (164, ⟨2, 16, (.struct [(3, 0), (3, 1)]), some (.prod (.int .i64) (.int .i64)), [.i .i64 0, .i .i64 0]⟩)]
def eqs : List Nat := []
def gl : List (Nat × (t : Ty) × List t.den) := [(1, ⟨.int .i64, [31, 28, 31, 30, 31, 30, 31, 31, 30, 31, 30, 31]⟩), (0, ⟨.int .u64, [1, 10, 100, 1000, 10000, 100000, 1000000, 10000000, 100000000, 1000000000, 10000000000, 100000000000, 1000000000000, 10000000000000, 100000000000000, 1000000000000000, 10000000000000000, 100000000000000000, 1000000000000000000, 10000000000000000000]⟩)]
abbrev TType : Type := Ty.den (.prod (.int .i64) (.int .i64))
abbrev TDateRange : Type := Ty.den (.prod (.int .i64) (.int .i64))
abbrev TNode : Type := Ty.den (.prod (.int .i64) (.int .i64))
abbrev TEnum : Type := Ty.den (.prod .str (.sl .str))
abbrev TValue : Type := Ty.den (.prod (.int .i64) (.prod (.int .i64) (.int .i64)))
abbrev TField : Type := Ty.den (.prod .str (.prod (.int .i64) (.int .i64)))
abbrev TEvalError : Type := Ty.den (.prod (.int .i64) (.prod (.int .i64) (.prod (.int .i64) (.int .i64))))
abbrev TMonthBalance : Type := Ty.den (.prod (.int .i64) (.prod (.int .i64) (.prod (.int .i64) (.int .i64))))
abbrev TPosting : Type := Ty.den (.prod (.int .i64) (.prod (.int .i64) (.prod (.int .i64) (.int .i64))))
abbrev TRow : Type := Ty.den (.prod (.prod (.int .i64) (.int .i64)) (.prod (.int .i64) (.prod (.int .i64) (.int .i64))))
abbrev TMemberResult : Type := Ty.den (.prod (.sl (.prod (.int .i64) (.prod (.int .i64) (.int .i64)))) (.sl (.int .i64)))
abbrev TResult : Type := Ty.den (.prod (.sl (.prod (.int .i64) (.prod (.int .i64) (.int .i64)))) (.prod (.sl (.int .i64)) (.sl (.prod (.sl (.prod (.int .i64) (.prod (.int .i64) (.int .i64)))) (.sl (.int .i64))))))
abbrev TTable : Type := Ty.den (.prod .str (.prod (.prod (.int .i64) (.int .i64)) (.prod (.prod (.int .i64) (.int .i64)) (.sl (.prod (.prod (.int .i64) (.int .i64)) (.prod (.int .i64) (.prod (.int .i64) (.int .i64))))))))
abbrev TRule : Type := Ty.den (.prod .str (.prod (.int .i64) (.prod (.int .i64) (.prod (.int .i64) (.prod (.prod (.int .i64) (.int .i64)) (.prod (.sl (.prod (.int .i64) (.int .i64))) (.prod (.sl (.prod (.int .i64) (.int .i64))) .str)))))))
abbrev TScope : Type := Ty.den (.prod .str (.prod (.int .i64) (.prod (.sl (.prod .str (.prod (.int .i64) (.int .i64)))) (.prod (.sl (.prod .str (.prod (.int .i64) (.int .i64)))) (.sl (.prod .str (.prod (.int .i64) (.prod (.int .i64) (.prod (.int .i64) (.prod (.prod (.int .i64) (.int .i64)) (.prod (.sl (.prod (.int .i64) (.int .i64))) (.prod (.sl (.prod (.int .i64) (.int .i64))) .str))))))))))))
abbrev TLaw : Type := Ty.den (.prod (.sl (.prod .str (.sl .str))) (.prod (.sl (.prod .str (.prod (.prod (.int .i64) (.int .i64)) (.prod (.prod (.int .i64) (.int .i64)) (.sl (.prod (.prod (.int .i64) (.int .i64)) (.prod (.int .i64) (.prod (.int .i64) (.int .i64))))))))) (.sl (.prod .str (.prod (.int .i64) (.prod (.sl (.prod .str (.prod (.int .i64) (.int .i64)))) (.prod (.sl (.prod .str (.prod (.int .i64) (.int .i64)))) (.sl (.prod .str (.prod (.int .i64) (.prod (.int .i64) (.prod (.int .i64) (.prod (.prod (.int .i64) (.int .i64)) (.prod (.sl (.prod (.int .i64) (.int .i64))) (.prod (.sl (.prod (.int .i64) (.int .i64))) .str)))))))))))))))
def ps22 : List MG := [(true, (.dat (.prod .str (.prod (.int .i64) (.prod (.sl (.prod .str (.prod (.int .i64) (.int .i64)))) (.prod (.sl (.prod .str (.prod (.int .i64) (.int .i64)))) (.sl (.prod .str (.prod (.int .i64) (.prod (.int .i64) (.prod (.int .i64) (.prod (.prod (.int .i64) (.int .i64)) (.prod (.sl (.prod (.int .i64) (.int .i64))) (.prod (.sl (.prod (.int .i64) (.int .i64))) .str))))))))))))))]
def rt22 : Ret := ⟨[(.tmp 2, (false, (.dat .bool)))], []⟩
def e22 : Env := ⟨93, eqs, tt, gl, []⟩
def an22 : Ann := .seq (.leaf) (.seq (.joinR [(2, 3), (7, 29)] [] (.leaf)) (.seq (.seq (.leaf) (.blk (.loopR [(2, 4), (29, 44)] [(3, (false, (.dat (.int .i64))))] 0 [] (.leaf)))) (.seq (.seq (.leaf) (.blk (.loopR [(2, 3), (4, 5), (44, 59)] [(4, (false, (.dat (.int .i64))))] 2 [] (.leaf)))) (.seq (.seq (.leaf) (.blk (.loopR [(2, 3), (5, 7), (59, 93)] [(5, (false, (.dat (.int .i64))))] 4 [] (.leaf)))) (.leaf)))))
def same_smallScope (a0 : TScope) : Option Bool :=
  obind
  (bcond (ilt 80 (llen a0.1)) (some (Sum.inr false))
    (bcond (ilt 14 (llen a0.2.2.1)) (some (Sum.inr false))
      (bcond (ilt 14 (llen a0.2.2.2.1)) (some (Sum.inr false))
        (bcond (ilt 60 (llen a0.2.2.2.2)) (some (Sum.inr false)) (some (Sum.inl PUnit.unit))))))
  fun (o : PUnit ⊕ Bool) =>
  sumK o
    (fun (x : PUnit) =>
      obind
        (loopO
          (fun (x : Int) =>
            bcond (ilt x (llen a0.2.2.1))
              (obind (lat a0.2.2.1 x) fun (x_1 : TField) =>
                bcond (ilt 80 (llen x_1.1)) (some (Out.rt false)) (some (Out.nx (iadd IntKind.i64 x 1))))
              (some (Out.ex PUnit.unit)))
          0)
        fun (o : PUnit ⊕ Bool) =>
        sumK o
          (fun (y : PUnit) =>
            obind
              (loopO
                (fun (x : Int) =>
                  bcond (ilt x (llen a0.2.2.2.1))
                    (obind (lat a0.2.2.2.1 x) fun (x_1 : TField) =>
                      bcond (ilt 80 (llen x_1.1)) (some (Out.rt false)) (some (Out.nx (iadd IntKind.i64 x 1))))
                    (some (Out.ex PUnit.unit)))
                0)
              fun (o : PUnit ⊕ Bool) =>
              sumK o
                (fun (y : PUnit) =>
                  obind
                    (loopO
                      (fun (x : Int) =>
                        bcond (ilt x (llen a0.2.2.2.2))
                          (obind (lat a0.2.2.2.2 x) fun (x_1 : TRule) =>
                            bcond (ilt 80 (llen x_1.1)) (some (Out.rt false))
                              (bcond (ilt 80 (llen x_1.2.2.2.2.2.2.2)) (some (Out.rt false))
                                (bcond (ilt 50 (llen x_1.2.2.2.2.2.1)) (some (Out.rt false))
                                  (bcond (ilt 50 (llen x_1.2.2.2.2.2.2.1)) (some (Out.rt false))
                                    (some (Out.nx (iadd IntKind.i64 x 1)))))))
                          (some (Out.ex PUnit.unit)))
                      0)
                    fun (o : PUnit ⊕ Bool) => sumK o (fun (y : PUnit) => some true) fun (r : Bool) => some r)
                fun (r : Bool) => some r)
          fun (r : Bool) => some r)
    fun (r : Bool) => some r
def s22 : FSpec := ⟨ps22, [(false, (.dat .bool))], [], fun x => same_smallScope x⟩
def ps7 : List MG := [(true, (.dat (.prod (.sl (.prod .str (.sl .str))) (.prod (.sl (.prod .str (.prod (.prod (.int .i64) (.int .i64)) (.prod (.prod (.int .i64) (.int .i64)) (.sl (.prod (.prod (.int .i64) (.int .i64)) (.prod (.int .i64) (.prod (.int .i64) (.int .i64))))))))) (.sl (.prod .str (.prod (.int .i64) (.prod (.sl (.prod .str (.prod (.int .i64) (.int .i64)))) (.prod (.sl (.prod .str (.prod (.int .i64) (.int .i64)))) (.sl (.prod .str (.prod (.int .i64) (.prod (.int .i64) (.prod (.int .i64) (.prod (.prod (.int .i64) (.int .i64)) (.prod (.sl (.prod (.int .i64) (.int .i64))) (.prod (.sl (.prod (.int .i64) (.int .i64))) .str)))))))))))))))))]
def rt7 : Ret := ⟨[(.tmp 2, (false, (.dat .bool)))], []⟩
def e7 : Env := ⟨127, eqs, tt, gl, [(22, s22)]⟩
def an7 : Ann := .seq (.leaf) (.seq (.joinR [(2, 3), (9, 25)] [] (.leaf)) (.seq (.leaf) (.seq (.leaf) (.seq (.seq (.leaf) (.blk (.loopR [(2, 3), (5, 7), (25, 72)] [(5, (false, (.dat (.int .i64))))] 0 [] (.seq (.leaf) (.seq (.blk (.seq (.leaf) (.seq (.leaf) (.blk (.loopR [(2, 3), (6, 7), (50, 72)] [(6, (false, (.dat (.int .i64))))] 2 [] (.leaf)))))) (.leaf)))))) (.seq (.seq (.leaf) (.blk (.loopR [(2, 4), (7, 8), (72, 100)] [(3, (false, (.dat (.int .i64)))), (7, (false, (.dat (.int .i64))))] 4 [] (.leaf)))) (.seq (.seq (.leaf) (.blk (.loopR [(2, 3), (4, 5), (8, 9), (100, 127)] [(4, (false, (.dat (.int .i64)))), (8, (false, (.dat (.int .i64))))] 6 [] (.leaf)))) (.leaf)))))))
def same_SmallLaw (a0 : TLaw) : Option Bool :=
  obind
  (bcond (ilt 9 (llen a0.1)) (some (Sum.inr false))
    (bcond (ilt 9 (llen a0.2.1)) (some (Sum.inr false))
      (bcond (ilt 5 (llen a0.2.2)) (some (Sum.inr false)) (some (Sum.inl PUnit.unit)))))
  fun (o : PUnit ⊕ Bool) =>
  sumK o
    (fun (x : PUnit) =>
      obind
        (loopO
          (fun (x : Int) =>
            bcond (ilt x (llen a0.1))
              (obind (lat a0.1 x) fun (x_1 : TEnum) =>
                bcond (ilt 80 (llen x_1.1)) (some (Out.rt false))
                  (obind (lat a0.1 x) fun (x_2 : TEnum) =>
                    bcond (ilt 20 (llen x_2.2)) (some (Out.rt false))
                      (obind
                        (loopO
                          (fun (x_3 : Int) =>
                            obind (lat a0.1 x) fun (x_4 : TEnum) =>
                              bcond (ilt x_3 (llen x_4.2))
                                (obind (lat a0.1 x) fun (x : TEnum) =>
                                  obind (lat x.2 x_3) fun (x : List UInt8) =>
                                    bcond (ilt 80 (llen x)) (some (Out.rt false))
                                      (some (Out.nx (iadd IntKind.i64 x_3 1))))
                                (some (Out.ex PUnit.unit)))
                          0)
                        fun (o : PUnit ⊕ Bool) =>
                        sumK o (fun (y : PUnit) => some (Out.nx (iadd IntKind.i64 x 1))) fun (r : Bool) =>
                          some (Out.rt r))))
              (some (Out.ex PUnit.unit)))
          0)
        fun (o : PUnit ⊕ Bool) =>
        sumK o
          (fun (y : PUnit) =>
            obind
              (loopO
                (fun (x : TType) =>
                  bcond (ilt x.2 (llen a0.2.1))
                    (obind (lat a0.2.1 x.2) fun (x_1 : TTable) =>
                      obind (lat a0.2.1 x.2) fun (x_2 : TTable) =>
                        bcond (ilt 80 (llen x_2.1)) (some (Out.rt false))
                          (bcond (ilt 150 (iadd IntKind.i64 x.1 (llen x_1.2.2.2))) (some (Out.rt false))
                            (some (Out.nx (iadd IntKind.i64 x.1 (llen x_1.2.2.2), iadd IntKind.i64 x.2 1)))))
                    (some (Out.ex PUnit.unit)))
                (0, 0))
              fun (o : PUnit ⊕ Bool) =>
              sumK o
                (fun (y : PUnit) =>
                  obind
                    (loopO
                      (fun (x : TType) =>
                        bcond (ilt x.2 (llen a0.2.2))
                          (obind (lat a0.2.2 x.2) fun (x_1 : TScope) =>
                            bcond (ilt 60 (iadd IntKind.i64 x.1 (llen x_1.2.2.2.2))) (some (Out.rt false))
                              (obind (lat a0.2.2 x.2) fun (x_2 : TScope) =>
                                obind (same_smallScope x_2) fun (x_3 : Bool) =>
                                  bcond (bnot x_3) (some (Out.rt false))
                                    (some (Out.nx (iadd IntKind.i64 x.1 (llen x_1.2.2.2.2), iadd IntKind.i64 x.2 1)))))
                          (some (Out.ex PUnit.unit)))
                      (0, 0))
                    fun (o : PUnit ⊕ Bool) => sumK o (fun (y : PUnit) => some true) fun (r : Bool) => some r)
                fun (r : Bool) => some r)
          fun (r : Bool) => some r)
    fun (r : Bool) => some r
def s7 : FSpec := ⟨ps7, [(false, (.dat .bool))], [], fun x => same_SmallLaw x⟩
def ps8 : List MG := [(true, (.dat (.prod (.sl (.prod (.int .i64) (.prod (.int .i64) (.int .i64)))) (.prod (.sl (.int .i64)) (.sl (.prod (.sl (.prod (.int .i64) (.prod (.int .i64) (.int .i64)))) (.sl (.int .i64))))))))]
def rt8 : Ret := ⟨[(.tmp 2, (false, (.dat .bool)))], []⟩
def e8 : Env := ⟨45, eqs, tt, gl, []⟩
def an8 : Ann := .seq (.leaf) (.seq (.joinR [(2, 3), (4, 20)] [] (.leaf)) (.seq (.seq (.leaf) (.blk (.loopR [(2, 4), (20, 45)] [(3, (false, (.dat (.int .i64))))] 0 [] (.leaf)))) (.leaf)))
def law54_few (a0 : TResult) : Option Bool :=
  obind
  (bcond (ilt 20 (llen a0.1)) (some (Sum.inr false))
    (bcond (ilt 20 (llen a0.2.1)) (some (Sum.inr false))
      (bcond (ilt 12 (llen a0.2.2)) (some (Sum.inr false)) (some (Sum.inl PUnit.unit)))))
  fun (o : PUnit ⊕ Bool) =>
  sumK o
    (fun (x : PUnit) =>
      obind
        (loopO
          (fun (x : Int) =>
            bcond (ilt x (llen a0.2.2))
              (obind (lat a0.2.2 x) fun (x_1 : TMemberResult) =>
                bcond (ilt 20 (llen x_1.1)) (some (Out.rt false))
                  (obind (lat a0.2.2 x) fun (x_2 : TMemberResult) =>
                    bcond (ilt 20 (llen x_2.2)) (some (Out.rt false)) (some (Out.nx (iadd IntKind.i64 x 1)))))
              (some (Out.ex PUnit.unit)))
          0)
        fun (o : PUnit ⊕ Bool) => sumK o (fun (y : PUnit) => some true) fun (r : Bool) => some r)
    fun (r : Bool) => some r
def s8 : FSpec := ⟨ps8, [(false, (.dat .bool))], [], fun x => law54_few x⟩
def ps10 : List MG := [(false, (.dat (.sl .str))), (false, (.dat (.sl .str)))]
def rt10 : Ret := ⟨[(.tmp 4, (false, (.dat .bool)))], []⟩
def e10 : Env := ⟨32, eqs, tt, gl, []⟩
def an10 : Ann := .seq (.leaf) (.seq (.leaf) (.seq (.seq (.leaf) (.blk (.loopR [(4, 6), (11, 32)] [(5, (false, (.dat (.int .i64))))] 0 [] (.leaf)))) (.leaf)))
def same_Strings (a0 : List (List UInt8)) (a1 : List (List UInt8)) : Option Bool :=
  bcond (bnot (ieq (llen a0) (llen a1))) (some false)
  (obind
    (loopO
      (fun (x : Int) =>
        bcond (ilt x (llen a0))
          (bcond (ilt x (llen a1))
            (obind (lat a0 x) fun (x_1 : List UInt8) =>
              obind (lat a1 x) fun (x_2 : List UInt8) =>
                bcond (bnot (seq x_1 x_2)) (some (Out.rt false)) (some (Out.nx (iadd IntKind.i64 x 1))))
            (some (Out.ex PUnit.unit)))
          (some (Out.ex PUnit.unit)))
      0)
    fun (o : PUnit ⊕ Bool) => sumK o (fun (y : PUnit) => some true) fun (r : Bool) => some r)
def s10 : FSpec := ⟨ps10, [(false, (.dat .bool))], [], fun x => same_Strings x.1 x.2⟩
def ps24 : List MG := [(true, (.dat (.prod (.sl (.prod .str (.sl .str))) (.prod (.sl (.prod .str (.prod (.prod (.int .i64) (.int .i64)) (.prod (.prod (.int .i64) (.int .i64)) (.sl (.prod (.prod (.int .i64) (.int .i64)) (.prod (.int .i64) (.prod (.int .i64) (.int .i64))))))))) (.sl (.prod .str (.prod (.int .i64) (.prod (.sl (.prod .str (.prod (.int .i64) (.int .i64)))) (.prod (.sl (.prod .str (.prod (.int .i64) (.int .i64)))) (.sl (.prod .str (.prod (.int .i64) (.prod (.int .i64) (.prod (.int .i64) (.prod (.prod (.int .i64) (.int .i64)) (.prod (.sl (.prod (.int .i64) (.int .i64))) (.prod (.sl (.prod (.int .i64) (.int .i64))) .str))))))))))))))))), (false, (.dat (.int .i64)))]
def rt24 : Ret := ⟨[(.cell 4 66, (true, (.dat (.prod .str (.prod (.int .i64) (.prod (.sl (.prod .str (.prod (.int .i64) (.int .i64)))) (.prod (.sl (.prod .str (.prod (.int .i64) (.int .i64)))) (.sl (.prod .str (.prod (.int .i64) (.prod (.int .i64) (.prod (.int .i64) (.prod (.prod (.int .i64) (.int .i64)) (.prod (.sl (.prod (.int .i64) (.int .i64))) (.prod (.sl (.prod (.int .i64) (.int .i64))) .str)))))))))))))))], []⟩
def e24 : Env := ⟨20, eqs, tt, gl, []⟩
def an24 : Ann := .leaf
def report_scopeOf (a0 : TLaw) (a1 : Int) : Option TScope :=
  bcond (ilt a1 0) (some ([], -1, [], [], []))
  (bcond (ile (llen a0.2.2) a1) (some ([], -1, [], [], [])) (obind (lat a0.2.2 a1) fun (x : TScope) => some x))
def s24 : FSpec := ⟨ps24, [(true, (.dat (.prod .str (.prod (.int .i64) (.prod (.sl (.prod .str (.prod (.int .i64) (.int .i64)))) (.prod (.sl (.prod .str (.prod (.int .i64) (.int .i64)))) (.sl (.prod .str (.prod (.int .i64) (.prod (.int .i64) (.prod (.int .i64) (.prod (.prod (.int .i64) (.int .i64)) (.prod (.sl (.prod (.int .i64) (.int .i64))) (.prod (.sl (.prod (.int .i64) (.int .i64))) .str))))))))))))))], [], fun x => report_scopeOf x.1 x.2⟩
def ps31 : List MG := [(true, (.dat (.prod .str (.prod (.int .i64) (.prod (.sl (.prod .str (.prod (.int .i64) (.int .i64)))) (.prod (.sl (.prod .str (.prod (.int .i64) (.int .i64)))) (.sl (.prod .str (.prod (.int .i64) (.prod (.int .i64) (.prod (.int .i64) (.prod (.prod (.int .i64) (.int .i64)) (.prod (.sl (.prod (.int .i64) (.int .i64))) (.prod (.sl (.prod (.int .i64) (.int .i64))) .str)))))))))))))), (false, (.dat (.int .i64)))]
def rt31 : Ret := ⟨[(.tmp 4, (false, (.dat .str)))], []⟩
def e31 : Env := ⟨20, eqs, tt, gl, []⟩
def an31 : Ann := .leaf
def report_defName (a0 : TScope) (a1 : Int) : Option (List UInt8) :=
  bcond (ilt a1 0) (some [63])
  (bcond (ile (llen a0.2.2.2.1) a1) (some [63]) (obind (lat a0.2.2.2.1 a1) fun (x : TField) => some x.1))
def s31 : FSpec := ⟨ps31, [(false, (.dat .str))], [], fun x => report_defName x.1 x.2⟩
def ps32 : List MG := [(true, (.dat (.prod .str (.prod (.int .i64) (.prod (.sl (.prod .str (.prod (.int .i64) (.int .i64)))) (.prod (.sl (.prod .str (.prod (.int .i64) (.int .i64)))) (.sl (.prod .str (.prod (.int .i64) (.prod (.int .i64) (.prod (.int .i64) (.prod (.prod (.int .i64) (.int .i64)) (.prod (.sl (.prod (.int .i64) (.int .i64))) (.prod (.sl (.prod (.int .i64) (.int .i64))) .str)))))))))))))), (false, (.dat (.int .i64)))]
def rt32 : Ret := ⟨[(.tmp 4, (false, (.dat .str)))], []⟩
def e32 : Env := ⟨20, eqs, tt, gl, []⟩
def an32 : Ann := .leaf
def report_ruleName (a0 : TScope) (a1 : Int) : Option (List UInt8) :=
  bcond (ilt a1 0) (some [63])
  (bcond (ile (llen a0.2.2.2.2) a1) (some [63]) (obind (lat a0.2.2.2.2 a1) fun (x : TRule) => some x.1))
def s32 : FSpec := ⟨ps32, [(false, (.dat .str))], [], fun x => report_ruleName x.1 x.2⟩
def ps52 : List MG := [(false, (.dat (.int .i64)))]
def s52 : FSpec := ⟨ps52, [(false, (.dat .str))], [], fun x => Lib_itoa x⟩
def ps27 : List MG := [(false, (.dat (.int .i64)))]
def rt27 : Ret := ⟨[(.tmp 2, (false, (.dat .str)))], []⟩
def e27 : Env := ⟨5, eqs, tt, gl, [(52, s52)]⟩
def an27 : Ann := .leaf
def numtext_FormatInt (a0 : Int) : Option (List UInt8) :=
  obind (Lib_itoa a0) fun (x : List UInt8) => some x
def s27 : FSpec := ⟨ps27, [(false, (.dat .str))], [], fun x => numtext_FormatInt x⟩
def ps63 : List MG := [(false, (.dat (.int .i64)))]
def rt63 : Ret := ⟨[(.tmp 2, (false, (.dat (.int .i64))))], []⟩
def e63 : Env := ⟨6, eqs, tt, gl, []⟩
def an63 : Ann := .leaf
def numtext_clampPlaces (a0 : Int) : Option Int :=
  some (imax 0 (imin a0 9))
def s63 : FSpec := ⟨ps63, [(false, (.dat (.int .i64)))], [], fun x => numtext_clampPlaces x⟩
def ps64 : List MG := [(false, (.dat .str)), (false, (.dat (.int .i64)))]
def s64 : FSpec := ⟨ps64, [(false, (.dat .str))], [], fun x => Lib_repeat x.1 x.2⟩
def ps55 : List MG := [(false, (.dat (.int .i64))), (false, (.dat (.int .i64)))]
def rt55 : Ret := ⟨[(.tmp 4, (false, (.dat .str)))], []⟩
def e55 : Env := ⟨45, eqs, tt, gl, [(27, s27), (63, s63), (64, s64)]⟩
def an55 : Ann := .leaf
def numtext_FormatFixed (a0 : Int) (a1 : Int) : Option (List UInt8) :=
  obind (numtext_clampPlaces a1) fun (x : Int) =>
  obind (numtext_FormatInt a0) fun (x_1 : List UInt8) =>
    bcond (ieq x 0) (some x_1)
      (bcond (ilt a0 0)
        (obind (lsub x_1 1 (llen x_1)) fun (x_2 : List UInt8) =>
          bcond (ile (llen x_2) x)
            (obind (Lib_repeat [48] (isub IntKind.i64 (iadd IntKind.i64 x 1) (llen x_2))) fun (x_3 : List UInt8) =>
              obind (sadd x_3 x_2) fun (x_4 : List UInt8) =>
                obind (lsub x_4 0 (isub IntKind.i64 (llen x_4) x)) fun (x_5 : List UInt8) =>
                  obind (sadd [45] x_5) fun (x_6 : List UInt8) =>
                    obind (sadd x_6 [46]) fun (x_7 : List UInt8) =>
                      obind (lsub x_4 (isub IntKind.i64 (llen x_4) x) (llen x_4)) fun (x : List UInt8) =>
                        obind (sadd x_7 x) fun (x : List UInt8) => some x)
            (obind (lsub x_2 0 (isub IntKind.i64 (llen x_2) x)) fun (x_3 : List UInt8) =>
              obind (sadd [45] x_3) fun (x_4 : List UInt8) =>
                obind (sadd x_4 [46]) fun (x_5 : List UInt8) =>
                  obind (lsub x_2 (isub IntKind.i64 (llen x_2) x) (llen x_2)) fun (x : List UInt8) =>
                    obind (sadd x_5 x) fun (x : List UInt8) => some x))
        (bcond (ile (llen x_1) x)
          (obind (Lib_repeat [48] (isub IntKind.i64 (iadd IntKind.i64 x 1) (llen x_1))) fun (x_2 : List UInt8) =>
            obind (sadd x_2 x_1) fun (x_3 : List UInt8) =>
              obind (lsub x_3 0 (isub IntKind.i64 (llen x_3) x)) fun (x_4 : List UInt8) =>
                obind (sadd [] x_4) fun (x_5 : List UInt8) =>
                  obind (sadd x_5 [46]) fun (x_6 : List UInt8) =>
                    obind (lsub x_3 (isub IntKind.i64 (llen x_3) x) (llen x_3)) fun (x : List UInt8) =>
                      obind (sadd x_6 x) fun (x : List UInt8) => some x)
          (obind (lsub x_1 0 (isub IntKind.i64 (llen x_1) x)) fun (x_2 : List UInt8) =>
            obind (sadd [] x_2) fun (x_3 : List UInt8) =>
              obind (sadd x_3 [46]) fun (x_4 : List UInt8) =>
                obind (lsub x_1 (isub IntKind.i64 (llen x_1) x) (llen x_1)) fun (x : List UInt8) =>
                  obind (sadd x_4 x) fun (x : List UInt8) => some x)))
def s55 : FSpec := ⟨ps55, [(false, (.dat .str))], [], fun x => numtext_FormatFixed x.1 x.2⟩
def ps66 : List MG := [(true, (.dat (.prod (.int .i64) (.int .i64)))), (false, (.dat (.sl (.prod .str (.sl .str)))))]
def rt66 : Ret := ⟨[(.tmp 4, (false, (.dat .bool)))], []⟩
def e66 : Env := ⟨28, eqs, tt, gl, []⟩
def an66 : Ann := .seq (.leaf) (.seq (.seq (.leaf) (.blk (.seq (.join [(7, 13)] [(7, (false, (.dat .bool)))] (.leaf)) (.leaf)))) (.leaf))
def value_ValidType (a0 : TType) (a1 : List TEnum) : Option Bool :=
  obind
  (bcond (ieq a0.1 1) (some (ieq a0.1 1))
    (bcond (ieq a0.1 2) (some (ieq a0.1 2))
      (bcond (ieq a0.1 3) (some (ieq a0.1 3)) (bcond (ieq a0.1 4) (some (ieq a0.1 4)) (some (ieq a0.1 5))))))
  fun (x : Bool) =>
  bcond x (some (ieq a0.2 0))
    (bcond (ieq a0.1 6) (bcond (ile 0 a0.2) (some (ilt a0.2 (llen a1))) (some false)) (some false))
def s66 : FSpec := ⟨ps66, [(false, (.dat .bool))], [], fun x => value_ValidType x.1 x.2⟩
def ps80 : List MG := [(true, (.dat (.prod (.int .i64) (.int .i64)))), (false, (.dat (.sl (.prod .str (.sl .str)))))]
def rt80 : Ret := ⟨[(.tmp 4, (false, (.dat (.int .i64)))), (.tmp 5, (false, (.dat (.int .i64))))], []⟩
def e80 : Env := ⟨30, eqs, tt, gl, [(66, s66)]⟩
def an80 : Ann := .leaf
def value_Bounds (a0 : TType) (a1 : List TEnum) : Option TType :=
  obind (value_ValidType a0 a1) fun (x : Bool) =>
  bcond (bnot x) (some (0, -1))
    (bcond (ieq a0.1 1) (some (0, 1))
      (bcond (ieq a0.1 2) (some (-1000000000000, 1000000000000))
        (bcond (ieq a0.1 3) (some (-1000000000000000, 1000000000000000))
          (bcond (ieq a0.1 4) (some (-1000000000, 1000000000))
            (bcond (ieq a0.1 5) (some (0, 109572))
              (obind (lat a1 a0.2) fun (x : TEnum) => some (0, isub IntKind.i64 (llen x.2) 1)))))))
def s80 : FSpec := ⟨ps80, [(false, (.dat (.int .i64))), (false, (.dat (.int .i64)))], [], fun x => value_Bounds x.1 x.2⟩
def ps67 : List MG := [(false, (.dat (.int .i64))), (true, (.dat (.prod (.int .i64) (.int .i64)))), (false, (.dat (.sl (.prod .str (.sl .str)))))]
def rt67 : Ret := ⟨[(.tmp 6, (false, (.dat .bool)))], []⟩
def e67 : Env := ⟨23, eqs, tt, gl, [(80, s80)]⟩
def an67 : Ann := .leaf
def value_within (a0 : Int) (a1 : TType) (a2 : List TEnum) : Option Bool :=
  obind (value_Bounds a1 a2) fun (x : TType) => bcond (ile x.1 a0) (some (ile a0 x.2)) (some false)
def s67 : FSpec := ⟨ps67, [(false, (.dat .bool))], [], fun x => value_within x.1 x.2.1 x.2.2⟩
def ps81 : List MG := [(false, (.dat (.int .i64)))]
def rt81 : Ret := ⟨[(.tmp 2, (false, (.dat .bool)))], []⟩
def e81 : Env := ⟨9, eqs, tt, gl, []⟩
def an81 : Ann := .leaf
def date_valid (a0 : Int) : Option Bool :=
  bcond (ile 0 a0) (some (ile a0 109572)) (some false)
def s81 : FSpec := ⟨ps81, [(false, (.dat .bool))], [], fun x => date_valid x⟩
def ps109 : List MG := [(false, (.dat (.int .i64)))]
def rt109 : Ret := ⟨[(.tmp 2, (false, (.dat (.int .i64))))], []⟩
def e109 : Env := ⟨11, eqs, tt, gl, []⟩
def an109 : Ann := .leaf
def date_leapYears (a0 : Int) : Option Int :=
  some (iadd IntKind.i64 (isub IntKind.i64 (iquo IntKind.i64 a0 4) (iquo IntKind.i64 a0 100)) (iquo IntKind.i64 a0 400))
def s109 : FSpec := ⟨ps109, [(false, (.dat (.int .i64)))], [], fun x => date_leapYears x⟩
def ps97 : List MG := [(false, (.dat (.int .i64)))]
def rt97 : Ret := ⟨[(.tmp 2, (false, (.dat (.int .i64))))], []⟩
def e97 : Env := ⟨12, eqs, tt, gl, [(109, s109)]⟩
def an97 : Ann := .leaf
def date_yearStart (a0 : Int) : Option Int :=
  obind (date_leapYears (isub IntKind.i64 a0 1)) fun (x : Int) =>
  obind (date_leapYears 1899) fun (x_1 : Int) =>
    some (isub IntKind.i64 (iadd IntKind.i64 (imul IntKind.i64 (isub IntKind.i64 a0 1900) 365) x) x_1)
def s97 : FSpec := ⟨ps97, [(false, (.dat (.int .i64)))], [], fun x => date_yearStart x⟩
def ps110 : List MG := [(false, (.dat (.int .i64)))]
def rt110 : Ret := ⟨[(.tmp 2, (false, (.dat .bool)))], []⟩
def e110 : Env := ⟨16, eqs, tt, gl, []⟩
def an110 : Ann := .leaf
def date_IsLeap (a0 : Int) : Option Bool :=
  bcond (ieq (irem a0 4) 0) (bcond (bnot (ieq (irem a0 100) 0)) (some true) (some (ieq (irem a0 400) 0))) (some false)
def s110 : FSpec := ⟨ps110, [(false, (.dat .bool))], [], fun x => date_IsLeap x⟩
def ps98 : List MG := [(false, (.dat (.int .i64))), (false, (.dat (.int .i64)))]
def rt98 : Ret := ⟨[(.tmp 4, (false, (.dat (.int .i64))))], []⟩
def e98 : Env := ⟨21, eqs, tt, gl, [(110, s110)]⟩
def an98 : Ann := .leaf
def date_DaysInMonth (a0 : Int) (a1 : Int) : Option Int :=
  bcond (ilt a1 1) (some 0)
  (bcond (ilt 12 a1) (some 0)
    (bcond (ieq a1 2)
      (obind (date_IsLeap a0) fun (x : Bool) =>
        bcond x (some 29)
          (obind (lat [31, 28, 31, 30, 31, 30, 31, 31, 30, 31, 30, 31] (isub IntKind.i64 a1 1)) fun (x : Int) =>
            some x))
      (obind (lat [31, 28, 31, 30, 31, 30, 31, 31, 30, 31, 30, 31] (isub IntKind.i64 a1 1)) fun (x : Int) => some x)))
def s98 : FSpec := ⟨ps98, [(false, (.dat (.int .i64)))], [], fun x => date_DaysInMonth x.1 x.2⟩
def ps82 : List MG := [(false, (.dat (.int .i64)))]
def rt82 : Ret := ⟨[(.tmp 2, (false, (.dat (.int .i64)))), (.tmp 3, (false, (.dat (.int .i64)))), (.tmp 4, (false, (.dat (.int .i64))))], []⟩
def e82 : Env := ⟨45, eqs, tt, gl, [(81, s81), (97, s97), (98, s98)]⟩
def an82 : Ann := .seq (.leaf) (.seq (.leaf) (.seq (.leaf) (.seq (.blk (.loop [(5, 6), (15, 22)] [(5, (false, (.dat (.int .i64))))] 0 [(5, (false, (.dat (.int .i64))))] (.leaf))) (.seq (.leaf) (.seq (.seq (.leaf) (.blk (.loopR [(2, 5), (6, 9), (26, 45)] [(6, (false, (.dat (.int .i64)))), (26, (false, (.dat (.int .i64))))] 2 [] (.leaf)))) (.leaf))))))
def date_ToYMD (a0 : Int) : Option TValue :=
  obind (date_valid a0) fun (x : Bool) =>
  bcond (bnot x) (some (0, 0, 0))
    (obind
      (loopE
        (fun (x : Int) =>
          obind (date_yearStart (iadd IntKind.i64 x 1)) fun (x_1 : Int) =>
            bcond (ile x_1 a0) (some (Sum.inl (iadd IntKind.i64 x 1))) (some (Sum.inr x)))
        (iadd IntKind.i64 1900 (iquo IntKind.i64 a0 366)))
      fun (y : Int) =>
      obind (date_yearStart y) fun (x : Int) =>
        obind
          (loopO
            (fun (x : TType) =>
              bcond (ilt x.2 12)
                (obind (date_DaysInMonth y (iadd IntKind.i64 x.2 1)) fun (x_1 : Int) =>
                  bcond (ilt x.1 x_1) (some (Out.rt (y, iadd IntKind.i64 x.2 1, iadd IntKind.i64 x.1 1)))
                    (some (Out.nx (isub IntKind.i64 x.1 x_1, iadd IntKind.i64 x.2 1))))
                (some (Out.ex PUnit.unit)))
            (isub IntKind.i64 a0 x, 0))
          fun (o : PUnit ⊕ TValue) => sumK o (fun (y : PUnit) => some (0, 0, 0)) fun (r : TValue) => some r)
def s82 : FSpec := ⟨ps82, [(false, (.dat (.int .i64))), (false, (.dat (.int .i64))), (false, (.dat (.int .i64)))], [], fun x => date_ToYMD x⟩
def ps83 : List MG := [(false, (.dat (.int .i64))), (false, (.dat (.int .i64)))]
def rt83 : Ret := ⟨[(.tmp 4, (false, (.dat .str)))], []⟩
def e83 : Env := ⟨16, eqs, tt, gl, [(27, s27), (64, s64)]⟩
def an83 : Ann := .leaf
def date_pad (a0 : Int) (a1 : Int) : Option (List UInt8) :=
  obind (numtext_FormatInt a0) fun (x : List UInt8) =>
  obind (Lib_repeat [48] (imax 0 (isub IntKind.i64 a1 (llen x)))) fun (x_1 : List UInt8) =>
    obind (sadd x_1 x) fun (x : List UInt8) => some x
def s83 : FSpec := ⟨ps83, [(false, (.dat .str))], [], fun x => date_pad x.1 x.2⟩
def ps68 : List MG := [(false, (.dat (.int .i64)))]
def rt68 : Ret := ⟨[(.tmp 2, (false, (.dat .str)))], []⟩
def e68 : Env := ⟨25, eqs, tt, gl, [(81, s81), (82, s82), (83, s83)]⟩
def an68 : Ann := .leaf
def date_Format (a0 : Int) : Option (List UInt8) :=
  obind (date_valid a0) fun (x : Bool) =>
  bcond (bnot x) (some [])
    (obind (date_ToYMD a0) fun (x : TValue) =>
      obind (date_pad x.1 4) fun (x_1 : List UInt8) =>
        obind (sadd x_1 [45]) fun (x_2 : List UInt8) =>
          obind (date_pad x.2.1 2) fun (x_3 : List UInt8) =>
            obind (sadd x_2 x_3) fun (x_4 : List UInt8) =>
              obind (sadd x_4 [45]) fun (x_5 : List UInt8) =>
                obind (date_pad x.2.2 2) fun (x : List UInt8) => obind (sadd x_5 x) fun (x : List UInt8) => some x)
def s68 : FSpec := ⟨ps68, [(false, (.dat .str))], [], fun x => date_Format x⟩
def ps58 : List MG := [(true, (.dat (.prod (.int .i64) (.prod (.int .i64) (.int .i64))))), (false, (.dat (.sl (.prod .str (.sl .str)))))]
def rt58 : Ret := ⟨[(.tmp 4, (false, (.dat .str))), (.tmp 5, (false, (.dat (.int .i64))))], []⟩
def e58 : Env := ⟨60, eqs, tt, gl, [(27, s27), (55, s55), (66, s66), (67, s67), (68, s68)]⟩
def an58 : Ann := .leaf
def value_Format (a0 : TValue) (a1 : List TEnum) : Option (List UInt8 × Int) :=
  obind (value_ValidType (a0.1, a0.2.1) a1) fun (x : Bool) =>
  bcond (bnot x) (some ([], 8))
    (obind (value_within a0.2.2 (a0.1, a0.2.1) a1) fun (x : Bool) =>
      bcond (bnot x) (some ([], 3))
        (bcond (ieq a0.1 1) (bcond (ieq a0.2.2 0) (some ([102, 97, 108, 115, 101], 0)) (some ([116, 114, 117, 101], 0)))
          (bcond (ieq a0.1 2) (obind (numtext_FormatInt a0.2.2) fun (x : List UInt8) => some (x, 0))
            (bcond (ieq a0.1 3) (obind (numtext_FormatFixed a0.2.2 2) fun (x : List UInt8) => some (x, 0))
              (bcond (ieq a0.1 4)
                (obind (numtext_FormatFixed a0.2.2 4) fun (x : List UInt8) =>
                  obind (sadd x [37]) fun (x : List UInt8) => some (x, 0))
                (bcond (ieq a0.1 5) (obind (date_Format a0.2.2) fun (x : List UInt8) => some (x, 0))
                  (obind (lat a1 a0.2.1) fun (x : TEnum) =>
                    obind (lat x.2 a0.2.2) fun (x : List UInt8) => some (x, 0))))))))
def s58 : FSpec := ⟨ps58, [(false, (.dat .str)), (false, (.dat (.int .i64)))], [], fun x => value_Format x.1 x.2⟩
def ps48 : List MG := [(true, (.dat (.prod (.int .i64) (.prod (.int .i64) (.int .i64))))), (false, (.dat (.sl (.prod .str (.sl .str)))))]
def rt48 : Ret := ⟨[(.tmp 4, (false, (.dat .str)))], []⟩
def e48 : Env := ⟨16, eqs, tt, gl, [(58, s58)]⟩
def an48 : Ann := .leaf
def report_valueText (a0 : TValue) (a1 : List TEnum) : Option (List UInt8) :=
  obind (value_Format a0 a1) fun (x : List UInt8 × Int) => bcond (bnot (ieq x.2 0)) (some [63]) (some x.1)
def s48 : FSpec := ⟨ps48, [(false, (.dat .str))], [], fun x => report_valueText x.1 x.2⟩
def ps25 : List MG := [(true, (.dat (.prod (.sl (.prod .str (.sl .str))) (.prod (.sl (.prod .str (.prod (.prod (.int .i64) (.int .i64)) (.prod (.prod (.int .i64) (.int .i64)) (.sl (.prod (.prod (.int .i64) (.int .i64)) (.prod (.int .i64) (.prod (.int .i64) (.int .i64))))))))) (.sl (.prod .str (.prod (.int .i64) (.prod (.sl (.prod .str (.prod (.int .i64) (.int .i64)))) (.prod (.sl (.prod .str (.prod (.int .i64) (.int .i64)))) (.sl (.prod .str (.prod (.int .i64) (.prod (.int .i64) (.prod (.int .i64) (.prod (.prod (.int .i64) (.int .i64)) (.prod (.sl (.prod (.int .i64) (.int .i64))) (.prod (.sl (.prod (.int .i64) (.int .i64))) .str))))))))))))))))), (true, (.dat (.prod .str (.prod (.int .i64) (.prod (.sl (.prod .str (.prod (.int .i64) (.int .i64)))) (.prod (.sl (.prod .str (.prod (.int .i64) (.int .i64)))) (.sl (.prod .str (.prod (.int .i64) (.prod (.int .i64) (.prod (.int .i64) (.prod (.prod (.int .i64) (.int .i64)) (.prod (.sl (.prod (.int .i64) (.int .i64))) (.prod (.sl (.prod (.int .i64) (.int .i64))) .str)))))))))))))), (false, (.dat (.int .i64))), (true, (.dat (.prod (.int .i64) (.prod (.int .i64) (.int .i64))))), (false, (.dat (.sl (.int .i64))))]
def rt25 : Ret := ⟨[(.tmp 10, (false, (.dat .str)))], []⟩
def e25 : Env := ⟨34, eqs, tt, gl, [(31, s31), (32, s32), (48, s48)]⟩
def an25 : Ann := .leaf
def report_valueLine (a0 : TLaw) (a1 : TScope) (a2 : Int) (a3 : TValue) (a4 : List Int) : Option (List UInt8) :=
  bcond (ilt a2 (llen a4))
  (obind (lat a4 a2) fun (x : Int) =>
    obind (report_ruleName a1 x) fun (x : List UInt8) =>
      obind (report_defName a1 a2) fun (x_1 : List UInt8) =>
        obind (sadd x_1 [32, 61, 32]) fun (x_2 : List UInt8) =>
          obind (report_valueText a3 a0.1) fun (x_3 : List UInt8) =>
            obind (sadd x_2 x_3) fun (x_4 : List UInt8) =>
              obind (sadd x_4 [32, 98, 121, 32]) fun (x_5 : List UInt8) =>
                obind (sadd x_5 x) fun (x : List UInt8) => some x)
  (obind (report_defName a1 a2) fun (x : List UInt8) =>
    obind (sadd x [32, 61, 32]) fun (x : List UInt8) =>
      obind (report_valueText a3 a0.1) fun (x_1 : List UInt8) =>
        obind (sadd x x_1) fun (x : List UInt8) =>
          obind (sadd x [32, 98, 121, 32]) fun (x : List UInt8) => obind (sadd x [63]) fun (x : List UInt8) => some x)
def s25 : FSpec := ⟨ps25, [(false, (.dat .str))], [], fun x => report_valueLine x.1 x.2.1 x.2.2.1 x.2.2.2.1 x.2.2.2.2⟩
def ps26 : List MG := [(true, (.dat (.prod (.sl (.prod .str (.sl .str))) (.prod (.sl (.prod .str (.prod (.prod (.int .i64) (.int .i64)) (.prod (.prod (.int .i64) (.int .i64)) (.sl (.prod (.prod (.int .i64) (.int .i64)) (.prod (.int .i64) (.prod (.int .i64) (.int .i64))))))))) (.sl (.prod .str (.prod (.int .i64) (.prod (.sl (.prod .str (.prod (.int .i64) (.int .i64)))) (.prod (.sl (.prod .str (.prod (.int .i64) (.int .i64)))) (.sl (.prod .str (.prod (.int .i64) (.prod (.int .i64) (.prod (.int .i64) (.prod (.prod (.int .i64) (.int .i64)) (.prod (.sl (.prod (.int .i64) (.int .i64))) (.prod (.sl (.prod (.int .i64) (.int .i64))) .str))))))))))))))))), (false, (.dat (.int .i64)))]
def rt26 : Ret := ⟨[(.cell 4 66, (true, (.dat (.prod .str (.prod (.int .i64) (.prod (.sl (.prod .str (.prod (.int .i64) (.int .i64)))) (.prod (.sl (.prod .str (.prod (.int .i64) (.int .i64)))) (.sl (.prod .str (.prod (.int .i64) (.prod (.int .i64) (.prod (.int .i64) (.prod (.prod (.int .i64) (.int .i64)) (.prod (.sl (.prod (.int .i64) (.int .i64))) (.prod (.sl (.prod (.int .i64) (.int .i64))) .str)))))))))))))))], []⟩
def e26 : Env := ⟨11, eqs, tt, gl, [(24, s24)]⟩
def an26 : Ann := .leaf
def report_memberScope (a0 : TLaw) (a1 : Int) : Option TScope :=
  obind (report_scopeOf a0 a1) fun (x : TScope) => obind (report_scopeOf a0 x.2.1) fun (x : TScope) => some x
def s26 : FSpec := ⟨ps26, [(true, (.dat (.prod .str (.prod (.int .i64) (.prod (.sl (.prod .str (.prod (.int .i64) (.int .i64)))) (.prod (.sl (.prod .str (.prod (.int .i64) (.int .i64)))) (.sl (.prod .str (.prod (.int .i64) (.prod (.int .i64) (.prod (.int .i64) (.prod (.prod (.int .i64) (.int .i64)) (.prod (.sl (.prod (.int .i64) (.int .i64))) (.prod (.sl (.prod (.int .i64) (.int .i64))) .str))))))))))))))], [], fun x => report_memberScope x.1 x.2⟩
def ps11 : List MG := [(true, (.dat (.prod (.sl (.prod .str (.sl .str))) (.prod (.sl (.prod .str (.prod (.prod (.int .i64) (.int .i64)) (.prod (.prod (.int .i64) (.int .i64)) (.sl (.prod (.prod (.int .i64) (.int .i64)) (.prod (.int .i64) (.prod (.int .i64) (.int .i64))))))))) (.sl (.prod .str (.prod (.int .i64) (.prod (.sl (.prod .str (.prod (.int .i64) (.int .i64)))) (.prod (.sl (.prod .str (.prod (.int .i64) (.int .i64)))) (.sl (.prod .str (.prod (.int .i64) (.prod (.int .i64) (.prod (.int .i64) (.prod (.prod (.int .i64) (.int .i64)) (.prod (.sl (.prod (.int .i64) (.int .i64))) (.prod (.sl (.prod (.int .i64) (.int .i64))) .str))))))))))))))))), (false, (.dat (.int .i64))), (true, (.dat (.prod (.sl (.prod (.int .i64) (.prod (.int .i64) (.int .i64)))) (.prod (.sl (.int .i64)) (.sl (.prod (.sl (.prod (.int .i64) (.prod (.int .i64) (.int .i64)))) (.sl (.int .i64))))))))]
def rt11 : Ret := ⟨[(.tmp 6, (false, (.own .str)))], []⟩
def e11 : Env := ⟨75, eqs, tt, gl, [(24, s24), (25, s25), (26, s26), (27, s27)]⟩
def an11 : Ann := .seq (.leaf) (.seq (.leaf) (.seq (.leaf) (.seq (.seq (.leaf) (.blk (.loop [(7, 8), (9, 11), (22, 38)] [(7, (false, (.own .str))), (22, (false, (.dat (.int .i64))))] 0 [(7, (false, (.own .str)))] (.leaf)))) (.seq (.leaf) (.seq (.seq (.leaf) (.blk (.loop [(7, 8), (12, 16), (44, 74), (18000000, 18000001)] [(7, (false, (.own .str))), (44, (false, (.dat (.int .i64))))] 2 [(7, (false, (.own .str)))] (.seq (.leaf) (.seq (.leaf) (.seq (.blk (.seq (.leaf) (.seq (.leaf) (.blk (.loop [(7, 8), (14, 16), (52, 73), (44000000, 44000001)] [(7, (false, (.own .str))), (52, (false, (.dat (.int .i64))))] 4 [(7, (false, (.own .str)))] (.leaf)))))) (.leaf))))))) (.leaf))))))
def report_Result (a0 : TLaw) (a1 : Int) (a2 : TResult) : Option (List (List UInt8)) :=
  obind (report_scopeOf a0 a1) fun (x : TScope) =>
  obind
    (loopE
      (fun (x_1 : List (List UInt8) × Int) =>
        bcond (ilt x_1.2 (llen a2.1))
          (obind (lat a2.1 x_1.2) fun (x_2 : TValue) =>
            obind (report_valueLine a0 x x_1.2 x_2 a2.2.1) fun (x : List UInt8) =>
              obind (lapp x_1.1 [x]) fun (x : List (List UInt8)) => some (Sum.inl (x, iadd IntKind.i64 x_1.2 1)))
          (some (Sum.inr x_1.1)))
      ([], 0))
    fun (y : List (List UInt8)) =>
    obind (report_memberScope a0 a1) fun (x : TScope) =>
      obind
        (loopE
          (fun (x_1 : List (List UInt8) × Int) =>
            bcond (ilt x_1.2 (llen a2.2.2))
              (obind (lat a2.2.2 x_1.2) fun (x_2 : TMemberResult) =>
                obind
                  (loopE
                    (fun (x_3 : List (List UInt8) × Int) =>
                      bcond (ilt x_3.2 (llen x_2.1))
                        (obind (lat x_2.1 x_3.2) fun (x_4 : TValue) =>
                          obind (numtext_FormatInt x_1.2) fun (x_5 : List UInt8) =>
                            obind (sadd [109, 101, 109, 98, 101, 114, 32] x_5) fun (x_6 : List UInt8) =>
                              obind (sadd x_6 [58, 32]) fun (x_7 : List UInt8) =>
                                obind (report_valueLine a0 x x_3.2 x_4 x_2.2) fun (x : List UInt8) =>
                                  obind (sadd x_7 x) fun (x : List UInt8) =>
                                    obind (lapp x_3.1 [x]) fun (x : List (List UInt8)) =>
                                      some (Sum.inl (x, iadd IntKind.i64 x_3.2 1)))
                        (some (Sum.inr x_3.1)))
                    (x_1.1, 0))
                  fun (y : List (List UInt8)) => some (Sum.inl (y, iadd IntKind.i64 x_1.2 1)))
              (some (Sum.inr x_1.1)))
          (y, 0))
        fun (y : List (List UInt8)) => some y
def s11 : FSpec := ⟨ps11, [(false, (.own .str))], [], fun x => report_Result x.1 x.2.1 x.2.2⟩
def ps13 : List MG := [(true, (.dat (.prod (.sl (.prod .str (.sl .str))) (.prod (.sl (.prod .str (.prod (.prod (.int .i64) (.int .i64)) (.prod (.prod (.int .i64) (.int .i64)) (.sl (.prod (.prod (.int .i64) (.int .i64)) (.prod (.int .i64) (.prod (.int .i64) (.int .i64))))))))) (.sl (.prod .str (.prod (.int .i64) (.prod (.sl (.prod .str (.prod (.int .i64) (.int .i64)))) (.prod (.sl (.prod .str (.prod (.int .i64) (.int .i64)))) (.sl (.prod .str (.prod (.int .i64) (.prod (.int .i64) (.prod (.int .i64) (.prod (.prod (.int .i64) (.int .i64)) (.prod (.sl (.prod (.int .i64) (.int .i64))) (.prod (.sl (.prod (.int .i64) (.int .i64))) .str))))))))))))))))), (false, (.dat (.int .i64))), (true, (.dat (.prod (.int .i64) (.prod (.int .i64) (.prod (.int .i64) (.int .i64))))))]
def rt13 : Ret := ⟨[(.tmp 6, (false, (.dat .str)))], []⟩
def e13 : Env := ⟨52, eqs, tt, gl, [(24, s24), (26, s26), (27, s27), (31, s31), (32, s32)]⟩
def an13 : Ann := .leaf
def report_EvalError (a0 : TLaw) (a1 : Int) (a2 : TEvalError) : Option (List UInt8) :=
  bcond (ieq a2.1 0) (some [111, 107])
  (obind (numtext_FormatInt a2.1) fun (x : List UInt8) =>
    obind (sadd [101, 114, 114, 111, 114, 32] x) fun (x : List UInt8) =>
      obind (report_scopeOf a0 a1) fun (x_1 : TScope) =>
        bcond (ile 0 a2.2.1)
          (obind (report_memberScope a0 a1) fun (x_2 : TScope) =>
            obind (numtext_FormatInt a2.2.1) fun (x_3 : List UInt8) =>
              obind (sadd [32, 105, 110, 32, 109, 101, 109, 98, 101, 114, 32] x_3) fun (x_4 : List UInt8) =>
                obind (sadd x x_4) fun (x : List UInt8) =>
                  bcond (ile 0 a2.2.2.1)
                    (obind (report_defName x_2 a2.2.2.1) fun (x_5 : List UInt8) =>
                      obind (sadd [32, 102, 111, 114, 32] x_5) fun (x_6 : List UInt8) =>
                        obind (sadd x x_6) fun (x : List UInt8) =>
                          bcond (ile 0 a2.2.2.2)
                            (obind (report_ruleName x_2 a2.2.2.2) fun (x_7 : List UInt8) =>
                              obind (sadd [32, 98, 121, 32] x_7) fun (x_8 : List UInt8) =>
                                obind (sadd x x_8) fun (x : List UInt8) => some x)
                            (some x))
                    (bcond (ile 0 a2.2.2.2)
                      (obind (report_ruleName x_2 a2.2.2.2) fun (x_5 : List UInt8) =>
                        obind (sadd [32, 98, 121, 32] x_5) fun (x_6 : List UInt8) =>
                          obind (sadd x x_6) fun (x : List UInt8) => some x)
                      (some x)))
          (bcond (ile 0 a2.2.2.1)
            (obind (report_defName x_1 a2.2.2.1) fun (x_2 : List UInt8) =>
              obind (sadd [32, 102, 111, 114, 32] x_2) fun (x_3 : List UInt8) =>
                obind (sadd x x_3) fun (x : List UInt8) =>
                  bcond (ile 0 a2.2.2.2)
                    (obind (report_ruleName x_1 a2.2.2.2) fun (x_4 : List UInt8) =>
                      obind (sadd [32, 98, 121, 32] x_4) fun (x_5 : List UInt8) =>
                        obind (sadd x x_5) fun (x : List UInt8) => some x)
                    (some x))
            (bcond (ile 0 a2.2.2.2)
              (obind (report_ruleName x_1 a2.2.2.2) fun (x_2 : List UInt8) =>
                obind (sadd [32, 98, 121, 32] x_2) fun (x_3 : List UInt8) =>
                  obind (sadd x x_3) fun (x : List UInt8) => some x)
              (some x))))
def s13 : FSpec := ⟨ps13, [(false, (.dat .str))], [], fun x => report_EvalError x.1 x.2.1 x.2.2⟩
def ps61 : List MG := [(false, (.dat (.int .i64)))]
def rt61 : Ret := ⟨[(.tmp 2, (false, (.dat .bool)))], []⟩
def e61 : Env := ⟨9, eqs, tt, gl, []⟩
def an61 : Ann := .leaf
def month_valid (a0 : Int) : Option Bool :=
  bcond (ile 0 a0) (some (ile a0 3599)) (some false)
def s61 : FSpec := ⟨ps61, [(false, (.dat .bool))], [], fun x => month_valid x⟩
def ps62 : List MG := [(false, (.dat (.int .i64))), (false, (.dat (.int .i64)))]
def rt62 : Ret := ⟨[(.tmp 4, (false, (.dat .str)))], []⟩
def e62 : Env := ⟨16, eqs, tt, gl, [(27, s27), (64, s64)]⟩
def an62 : Ann := .leaf
def month_pad (a0 : Int) (a1 : Int) : Option (List UInt8) :=
  obind (numtext_FormatInt a0) fun (x : List UInt8) =>
  obind (Lib_repeat [48] (imax 0 (isub IntKind.i64 a1 (llen x)))) fun (x_1 : List UInt8) =>
    obind (sadd x_1 x) fun (x : List UInt8) => some x
def s62 : FSpec := ⟨ps62, [(false, (.dat .str))], [], fun x => month_pad x.1 x.2⟩
def ps54 : List MG := [(false, (.dat (.int .i64)))]
def rt54 : Ret := ⟨[(.tmp 2, (false, (.dat .str)))], []⟩
def e54 : Env := ⟨16, eqs, tt, gl, [(61, s61), (62, s62)]⟩
def an54 : Ann := .leaf
def month_Format (a0 : Int) : Option (List UInt8) :=
  obind (month_valid a0) fun (x : Bool) =>
  bcond (bnot x) (some [])
    (obind (month_pad (iadd IntKind.i64 1900 (iquo IntKind.i64 a0 12)) 4) fun (x : List UInt8) =>
      obind (sadd x [45]) fun (x : List UInt8) =>
        obind (month_pad (iadd IntKind.i64 (irem a0 12) 1) 2) fun (x_1 : List UInt8) =>
          obind (sadd x x_1) fun (x : List UInt8) => some x)
def s54 : FSpec := ⟨ps54, [(false, (.dat .str))], [], fun x => month_Format x⟩
def ps35 : List MG := [(false, (.dat (.int .i64)))]
def rt35 : Ret := ⟨[(.tmp 2, (false, (.dat .str)))], []⟩
def e35 : Env := ⟨9, eqs, tt, gl, [(54, s54)]⟩
def an35 : Ann := .leaf
def report_monthText (a0 : Int) : Option (List UInt8) :=
  obind (month_Format a0) fun (x : List UInt8) => bcond (bnot (seq x [])) (some x) (some [63])
def s35 : FSpec := ⟨ps35, [(false, (.dat .str))], [], fun x => report_monthText x⟩
def ps36 : List MG := [(false, (.dat (.int .i64)))]
def rt36 : Ret := ⟨[(.tmp 2, (false, (.dat .str)))], []⟩
def e36 : Env := ⟨5, eqs, tt, gl, [(55, s55)]⟩
def an36 : Ann := .leaf
def report_amount (a0 : Int) : Option (List UInt8) :=
  obind (numtext_FormatFixed a0 2) fun (x : List UInt8) => some x
def s36 : FSpec := ⟨ps36, [(false, (.dat .str))], [], fun x => report_amount x⟩
def ps37 : List MG := [(true, (.dat (.prod (.int .i64) (.prod (.int .i64) (.prod (.int .i64) (.int .i64))))))]
def rt37 : Ret := ⟨[(.tmp 2, (false, (.dat (.int .i64))))], []⟩
def e37 : Env := ⟨9, eqs, tt, gl, []⟩
def an37 : Ann := .leaf
def balance_Arrears (a0 : TEvalError) : Option Int :=
  some (imax (isub IntKind.i64 a0.2.1 a0.2.2.1) 0)
def s37 : FSpec := ⟨ps37, [(false, (.dat (.int .i64)))], [], fun x => balance_Arrears x⟩
def ps38 : List MG := [(true, (.dat (.prod (.int .i64) (.prod (.int .i64) (.prod (.int .i64) (.int .i64))))))]
def rt38 : Ret := ⟨[(.tmp 2, (false, (.dat (.int .i64))))], []⟩
def e38 : Env := ⟨12, eqs, tt, gl, []⟩
def an38 : Ann := .leaf
def balance_Overpayment (a0 : TEvalError) : Option Int :=
  some (imax (isub IntKind.i64 (isub IntKind.i64 a0.2.2.1 a0.2.1) a0.2.2.2) 0)
def s38 : FSpec := ⟨ps38, [(false, (.dat (.int .i64)))], [], fun x => balance_Overpayment x⟩
def ps16 : List MG := [(false, (.dat (.sl (.prod (.int .i64) (.prod (.int .i64) (.prod (.int .i64) (.int .i64)))))))]
def rt16 : Ret := ⟨[(.tmp 2, (false, (.own .str)))], []⟩
def e16 : Env := ⟨45, eqs, tt, gl, [(35, s35), (36, s36), (37, s37), (38, s38)]⟩
def an16 : Ann := .seq (.leaf) (.seq (.leaf) (.seq (.seq (.leaf) (.blk (.loop [(3, 4), (5, 6), (8, 44)] [(3, (false, (.own .str))), (8, (false, (.dat (.int .i64))))] 0 [(3, (false, (.own .str)))] (.leaf)))) (.leaf)))
def report_Balances (a0 : List TEvalError) : Option (List (List UInt8)) :=
  obind
  (loopE
    (fun (x : List (List UInt8) × Int) =>
      bcond (ilt x.2 (llen a0))
        (obind (lat a0 x.2) fun (x_1 : TEvalError) =>
          obind (report_monthText x_1.1) fun (x_2 : List UInt8) =>
            obind (sadd x_2 [32, 100, 117, 101, 32]) fun (x_3 : List UInt8) =>
              obind (report_amount x_1.2.1) fun (x_4 : List UInt8) =>
                obind (sadd x_3 x_4) fun (x_5 : List UInt8) =>
                  obind (sadd x_5 [32, 114, 101, 99, 101, 105, 118, 101, 100, 32]) fun (x_6 : List UInt8) =>
                    obind (report_amount x_1.2.2.1) fun (x_7 : List UInt8) =>
                      obind (sadd x_6 x_7) fun (x_8 : List UInt8) =>
                        obind (sadd x_8 [32, 119, 97, 105, 118, 101, 100, 32]) fun (x_9 : List UInt8) =>
                          obind (report_amount x_1.2.2.2) fun (x_10 : List UInt8) =>
                            obind (sadd x_9 x_10) fun (x_11 : List UInt8) =>
                              obind (sadd x_11 [32, 97, 114, 114, 101, 97, 114, 115, 32]) fun (x_12 : List UInt8) =>
                                obind (balance_Arrears x_1) fun (x_13 : Int) =>
                                  obind (report_amount x_13) fun (x_14 : List UInt8) =>
                                    obind (sadd x_12 x_14) fun (x_15 : List UInt8) =>
                                      obind (sadd x_15 [32, 111, 118, 101, 114, 112, 97, 121, 109, 101, 110, 116, 32])
                                        fun (x_16 : List UInt8) =>
                                        obind (balance_Overpayment x_1) fun (x_17 : Int) =>
                                          obind (report_amount x_17) fun (x_18 : List UInt8) =>
                                            obind (sadd x_16 x_18) fun (x_19 : List UInt8) =>
                                              obind (lapp x.1 [x_19]) fun (x_20 : List (List UInt8)) =>
                                                some (Sum.inl (x_20, iadd IntKind.i64 x.2 1)))
        (some (Sum.inr x.1)))
    ([], 0))
  fun (y : List (List UInt8)) => some y
def s16 : FSpec := ⟨ps16, [(false, (.own .str))], [], fun x => report_Balances x⟩
def ps49 : List MG := [(false, (.dat (.int .i64)))]
def rt49 : Ret := ⟨[(.tmp 2, (false, (.dat .str)))], []⟩
def e49 : Env := ⟨12, eqs, tt, gl, []⟩
def an49 : Ann := .leaf
def report_kindText (a0 : Int) : Option (List UInt8) :=
  bcond (ieq a0 1) (some [112, 97, 121, 109, 101, 110, 116])
  (bcond (ieq a0 2) (some [114, 101, 99, 111, 118, 101, 114, 121])
    (bcond (ieq a0 3) (some [114, 101, 112, 97, 121, 109, 101, 110, 116])
      (bcond (ieq a0 4) (some [119, 97, 105, 118, 101, 114]) (some [63]))))
def s49 : FSpec := ⟨ps49, [(false, (.dat .str))], [], fun x => report_kindText x⟩
def ps20 : List MG := [(false, (.dat (.sl (.prod (.int .i64) (.prod (.int .i64) (.prod (.int .i64) (.int .i64)))))))]
def rt20 : Ret := ⟨[(.tmp 2, (false, (.own .str)))], []⟩
def e20 : Env := ⟨38, eqs, tt, gl, [(35, s35), (36, s36), (48, s48), (49, s49)]⟩
def an20 : Ann := .seq (.leaf) (.seq (.leaf) (.seq (.seq (.leaf) (.blk (.loop [(3, 4), (5, 7), (9, 37)] [(3, (false, (.own .str))), (9, (false, (.dat (.int .i64))))] 0 [(3, (false, (.own .str)))] (.leaf)))) (.leaf)))
def report_Postings (a0 : List TEvalError) : Option (List (List UInt8)) :=
  obind
  (loopE
    (fun (x : List (List UInt8) × Int) =>
      bcond (ilt x.2 (llen a0))
        (obind (lat a0 x.2) fun (x_1 : TEvalError) =>
          obind (report_valueText (5, 0, x_1.1) []) fun (x_2 : List UInt8) =>
            obind (sadd x_2 [32]) fun (x_3 : List UInt8) =>
              obind (report_monthText x_1.2.1) fun (x_4 : List UInt8) =>
                obind (sadd x_3 x_4) fun (x_5 : List UInt8) =>
                  obind (sadd x_5 [32]) fun (x_6 : List UInt8) =>
                    obind (report_kindText x_1.2.2.1) fun (x_7 : List UInt8) =>
                      obind (sadd x_6 x_7) fun (x_8 : List UInt8) =>
                        obind (sadd x_8 [32]) fun (x_9 : List UInt8) =>
                          obind (report_amount x_1.2.2.2) fun (x_10 : List UInt8) =>
                            obind (sadd x_9 x_10) fun (x_11 : List UInt8) =>
                              obind (lapp x.1 [x_11]) fun (x_12 : List (List UInt8)) =>
                                some (Sum.inl (x_12, iadd IntKind.i64 x.2 1)))
        (some (Sum.inr x.1)))
    ([], 0))
  fun (y : List (List UInt8)) => some y
def s20 : FSpec := ⟨ps20, [(false, (.own .str))], [], fun x => report_Postings x⟩
def ps23 : List MG := [(false, (.dat (.sl (.prod (.int .i64) (.int .i64)))))]
def rt23 : Ret := ⟨[(.cell 2 26, (true, (.dat (.prod (.sl (.prod .str (.sl .str))) (.prod (.sl (.prod .str (.prod (.prod (.int .i64) (.int .i64)) (.prod (.prod (.int .i64) (.int .i64)) (.sl (.prod (.prod (.int .i64) (.int .i64)) (.prod (.int .i64) (.prod (.int .i64) (.int .i64))))))))) (.sl (.prod .str (.prod (.int .i64) (.prod (.sl (.prod .str (.prod (.int .i64) (.int .i64)))) (.prod (.sl (.prod .str (.prod (.int .i64) (.int .i64)))) (.sl (.prod .str (.prod (.int .i64) (.prod (.int .i64) (.prod (.int .i64) (.prod (.prod (.int .i64) (.int .i64)) (.prod (.sl (.prod (.int .i64) (.int .i64))) (.prod (.sl (.prod (.int .i64) (.int .i64))) .str))))))))))))))))))], []⟩
def e23 : Env := ⟨22, eqs, tt, gl, []⟩
def an23 : Ann := .leaf
def same_TinyLaw (a0 : List TType) : Option TLaw :=
  some
  ([], [],
    [([104, 111, 117, 115, 101], -1, [([97], 3, 0)], [([100], 3, 0)],
        [([98, 97, 115, 101], 0, -1, 0, (0, 109573), [], a0, [])])])
def s23 : FSpec := ⟨ps23, [(true, (.dat (.prod (.sl (.prod .str (.sl .str))) (.prod (.sl (.prod .str (.prod (.prod (.int .i64) (.int .i64)) (.prod (.prod (.int .i64) (.int .i64)) (.sl (.prod (.prod (.int .i64) (.int .i64)) (.prod (.int .i64) (.prod (.int .i64) (.int .i64))))))))) (.sl (.prod .str (.prod (.int .i64) (.prod (.sl (.prod .str (.prod (.int .i64) (.int .i64)))) (.prod (.sl (.prod .str (.prod (.int .i64) (.int .i64)))) (.sl (.prod .str (.prod (.int .i64) (.prod (.int .i64) (.prod (.int .i64) (.prod (.prod (.int .i64) (.int .i64)) (.prod (.sl (.prod (.int .i64) (.int .i64))) (.prod (.sl (.prod (.int .i64) (.int .i64))) .str)))))))))))))))))], [], fun x => same_TinyLaw x⟩
def ps9 : List MG := []
def rt9 : Ret := ⟨[(.tmp 0, (false, (.dat .bool)))], []⟩
def e9 : Env := ⟨45, eqs, tt, gl, [(10, s10), (11, s11), (13, s13), (16, s16), (20, s20), (23, s23)]⟩
def an9 : Ann := .leaf
def law54_awake : Option Bool :=
  obind (same_TinyLaw []) fun (x : TLaw) =>
  obind (report_Result x 0 ([(3, 0, 1250)], [0], [])) fun (x_1 : List (List UInt8)) =>
    obind (report_Balances [(1200, 50000, 20000, 0)]) fun (x_2 : List (List UInt8)) =>
      obind (report_Postings [(36524, 1200, 2, 250)]) fun (x_3 : List (List UInt8)) =>
        obind (report_EvalError x 0 (12, -1, 0, 0)) fun (x_4 : List UInt8) =>
          obind (same_Strings x_1 [[100, 32, 61, 32, 49, 50, 46, 53, 48, 32, 98, 121, 32, 98, 97, 115, 101]])
            fun (x_5 : Bool) =>
            bcond x_5
              (obind
                (same_Strings x_2
                  [[50, 48, 48, 48, 45, 48, 49, 32, 100, 117, 101, 32, 53, 48, 48, 46, 48, 48, 32, 114, 101, 99, 101,
                      105, 118, 101, 100, 32, 50, 48, 48, 46, 48, 48, 32, 119, 97, 105, 118, 101, 100, 32, 48, 46, 48,
                      48, 32, 97, 114, 114, 101, 97, 114, 115, 32, 51, 48, 48, 46, 48, 48, 32, 111, 118, 101, 114, 112,
                      97, 121, 109, 101, 110, 116, 32, 48, 46, 48, 48]])
                fun (x_6 : Bool) =>
                bcond x_6
                  (obind
                    (same_Strings x_3
                      [[50, 48, 48, 48, 45, 48, 49, 45, 48, 49, 32, 50, 48, 48, 48, 45, 48, 49, 32, 114, 101, 99, 111,
                          118, 101, 114, 121, 32, 50, 46, 53, 48]])
                    fun (x_7 : Bool) =>
                    bcond x_7
                      (bcond
                        (seq x_4
                          [101, 114, 114, 111, 114, 32, 49, 50, 32, 102, 111, 114, 32, 100, 32, 98, 121, 32, 98, 97,
                            115, 101])
                        (obind (report_EvalError x 0 (1, -1, -1, -1)) fun (x : List UInt8) =>
                          some (seq x [101, 114, 114, 111, 114, 32, 49]))
                        (some false))
                      (some false))
                  (some false))
              (some false)
def s9 : FSpec := ⟨ps9, [(false, (.dat .bool))], [], fun x => law54_awake⟩
def ps28 : List MG := [(true, (.dat (.prod (.sl (.prod .str (.sl .str))) (.prod (.sl (.prod .str (.prod (.prod (.int .i64) (.int .i64)) (.prod (.prod (.int .i64) (.int .i64)) (.sl (.prod (.prod (.int .i64) (.int .i64)) (.prod (.int .i64) (.prod (.int .i64) (.int .i64))))))))) (.sl (.prod .str (.prod (.int .i64) (.prod (.sl (.prod .str (.prod (.int .i64) (.int .i64)))) (.prod (.sl (.prod .str (.prod (.int .i64) (.int .i64)))) (.sl (.prod .str (.prod (.int .i64) (.prod (.int .i64) (.prod (.int .i64) (.prod (.prod (.int .i64) (.int .i64)) (.prod (.sl (.prod (.int .i64) (.int .i64))) (.prod (.sl (.prod (.int .i64) (.int .i64))) .str))))))))))))))))), (false, (.dat (.int .i64)))]
def rt28 : Ret := ⟨[(.cell 4 66, (true, (.dat (.prod .str (.prod (.int .i64) (.prod (.sl (.prod .str (.prod (.int .i64) (.int .i64)))) (.prod (.sl (.prod .str (.prod (.int .i64) (.int .i64)))) (.sl (.prod .str (.prod (.int .i64) (.prod (.int .i64) (.prod (.int .i64) (.prod (.prod (.int .i64) (.int .i64)) (.prod (.sl (.prod (.int .i64) (.int .i64))) (.prod (.sl (.prod (.int .i64) (.int .i64))) .str)))))))))))))))], []⟩
def e28 : Env := ⟨20, eqs, tt, gl, []⟩
def an28 : Ann := .leaf
def ref54_scopeAt (a0 : TLaw) (a1 : Int) : Option TScope :=
  bcond (ilt a1 0) (some ([], -1, [], [], []))
  (bcond (ile (llen a0.2.2) a1) (some ([], -1, [], [], [])) (obind (lat a0.2.2 a1) fun (x : TScope) => some x))
def s28 : FSpec := ⟨ps28, [(true, (.dat (.prod .str (.prod (.int .i64) (.prod (.sl (.prod .str (.prod (.int .i64) (.int .i64)))) (.prod (.sl (.prod .str (.prod (.int .i64) (.int .i64)))) (.sl (.prod .str (.prod (.int .i64) (.prod (.int .i64) (.prod (.int .i64) (.prod (.prod (.int .i64) (.int .i64)) (.prod (.sl (.prod (.int .i64) (.int .i64))) (.prod (.sl (.prod (.int .i64) (.int .i64))) .str))))))))))))))], [], fun x => ref54_scopeAt x.1 x.2⟩
def ps33 : List MG := [(true, (.dat (.prod .str (.prod (.int .i64) (.prod (.sl (.prod .str (.prod (.int .i64) (.int .i64)))) (.prod (.sl (.prod .str (.prod (.int .i64) (.int .i64)))) (.sl (.prod .str (.prod (.int .i64) (.prod (.int .i64) (.prod (.int .i64) (.prod (.prod (.int .i64) (.int .i64)) (.prod (.sl (.prod (.int .i64) (.int .i64))) (.prod (.sl (.prod (.int .i64) (.int .i64))) .str)))))))))))))), (false, (.dat (.int .i64)))]
def rt33 : Ret := ⟨[(.tmp 4, (false, (.dat .str)))], []⟩
def e33 : Env := ⟨20, eqs, tt, gl, []⟩
def an33 : Ann := .leaf
def ref54_defName (a0 : TScope) (a1 : Int) : Option (List UInt8) :=
  bcond (ilt a1 0) (some [63])
  (bcond (ile (llen a0.2.2.2.1) a1) (some [63]) (obind (lat a0.2.2.2.1 a1) fun (x : TField) => some x.1))
def s33 : FSpec := ⟨ps33, [(false, (.dat .str))], [], fun x => ref54_defName x.1 x.2⟩
def ps34 : List MG := [(true, (.dat (.prod .str (.prod (.int .i64) (.prod (.sl (.prod .str (.prod (.int .i64) (.int .i64)))) (.prod (.sl (.prod .str (.prod (.int .i64) (.int .i64)))) (.sl (.prod .str (.prod (.int .i64) (.prod (.int .i64) (.prod (.int .i64) (.prod (.prod (.int .i64) (.int .i64)) (.prod (.sl (.prod (.int .i64) (.int .i64))) (.prod (.sl (.prod (.int .i64) (.int .i64))) .str)))))))))))))), (false, (.dat (.int .i64)))]
def rt34 : Ret := ⟨[(.tmp 4, (false, (.dat .str)))], []⟩
def e34 : Env := ⟨20, eqs, tt, gl, []⟩
def an34 : Ann := .leaf
def ref54_ruleName (a0 : TScope) (a1 : Int) : Option (List UInt8) :=
  bcond (ilt a1 0) (some [63])
  (bcond (ile (llen a0.2.2.2.2) a1) (some [63]) (obind (lat a0.2.2.2.2 a1) fun (x : TRule) => some x.1))
def s34 : FSpec := ⟨ps34, [(false, (.dat .str))], [], fun x => ref54_ruleName x.1 x.2⟩
def ps53 : List MG := [(false, (.dat (.int .u64)))]
def rt53 : Ret := ⟨[(.tmp 2, (false, (.dat .str)))], []⟩
def e53 (r53 : M.den (.dat (.int .u64)) → Option (tupDen ([(false, (.dat .str))] ++ []))) : Env := ⟨20, eqs, tt, gl, [(53, ⟨ps53, [(false, (.dat .str))], [], fun x => r53 x⟩)]⟩
def an53 : Ann := .leaf
def ref01_digits_step (r53 : Int → Option (List UInt8)) (a0 : Int) : Option (List UInt8) :=
  bcond (ilt a0 10) (some [u8of (wrap IntKind.u8 (iadd IntKind.u64 48 a0))])
  (obind (r53 (iquo IntKind.u64 a0 10)) fun (x : List UInt8) =>
    obind (sadd x [u8of (wrap IntKind.u8 (iadd IntKind.u64 48 (irem a0 10)))]) fun (x : List UInt8) => some x)
def ref01_digits_scc : Nat → (M.den (.dat (.int .u64)) → Option (tupDen ([(false, (.dat .str))] ++ [])))
  | 0 => fun a0 => none
  | n + 1 => fun a0 => ref01_digits_step (ref01_digits_scc n) a0
def ref01_digits : M.den (.dat (.int .u64)) → Option (tupDen ([(false, (.dat .str))] ++ [])) := fun a0 => (ref01_digits_scc fuel) a0
def s53 : FSpec := ⟨ps53, [(false, (.dat .str))], [], fun x => ref01_digits x⟩
def ps30 : List MG := [(false, (.dat (.int .i64)))]
def rt30 : Ret := ⟨[(.tmp 2, (false, (.dat .str)))], []⟩
def e30 : Env := ⟨15, eqs, tt, gl, [(53, s53)]⟩
def an30 : Ann := .leaf
def ref01_FormatInt (a0 : Int) : Option (List UInt8) :=
  bcond (ilt a0 0)
  (obind (ref01_digits (iadd IntKind.u64 (wrap IntKind.u64 (isub IntKind.i64 0 (iadd IntKind.i64 a0 1))) 1))
    fun (x : List UInt8) => obind (sadd [45] x) fun (x : List UInt8) => some x)
  (obind (ref01_digits (wrap IntKind.u64 a0)) fun (x : List UInt8) => some x)
def s30 : FSpec := ⟨ps30, [(false, (.dat .str))], [], fun x => ref01_FormatInt x⟩
def ps43 : List MG := [(false, (.dat (.int .i64)))]
def rt43 : Ret := ⟨[(.tmp 2, (false, (.dat (.int .i64))))], []⟩
def e43 : Env := ⟨6, eqs, tt, gl, []⟩
def an43 : Ann := .leaf
def ref01_clamp (a0 : Int) : Option Int :=
  some (imin (imax a0 0) 9)
def s43 : FSpec := ⟨ps43, [(false, (.dat (.int .i64)))], [], fun x => ref01_clamp x⟩
def ps45 : List MG := [(false, (.dat .str))]
def rt45 : Ret := ⟨[(.tmp 2, (false, (.dat .str))), (.tmp 3, (false, (.dat .bool)))], []⟩
def e45 : Env := ⟨15, eqs, tt, gl, []⟩
def an45 : Ann := .leaf
def ref01_sign (a0 : List UInt8) : Option (List UInt8 × Bool) :=
  bcond (ilt 0 (llen a0))
  (obind (sat a0 0) fun (x : Int) =>
    bcond (ieq x 45) (obind (lsub a0 1 (llen a0)) fun (x : List UInt8) => some (x, true)) (some (a0, false)))
  (some (a0, false))
def s45 : FSpec := ⟨ps45, [(false, (.dat .str)), (false, (.dat .bool))], [], fun x => ref01_sign x⟩
def ps57 : List MG := [(false, (.dat (.int .i64))), (false, (.dat (.int .i64)))]
def rt57 : Ret := ⟨[(.tmp 4, (false, (.dat .str)))], []⟩
def e57 : Env := ⟨44, eqs, tt, gl, [(30, s30), (43, s43), (45, s45)]⟩
def an57 : Ann := .seq (.leaf) (.seq (.leaf) (.seq (.leaf) (.seq (.leaf) (.seq (.blk (.loop [(6, 7), (20, 26)] [(6, (false, (.dat .str)))] 0 [(6, (false, (.dat .str)))] (.leaf))) (.leaf)))))
def ref01_FormatFixed (a0 : Int) (a1 : Int) : Option (List UInt8) :=
  obind (ref01_clamp a1) fun (x : Int) =>
  bcond (ieq x 0) (obind (ref01_FormatInt a0) fun (x : List UInt8) => some x)
    (obind (ref01_FormatInt a0) fun (x_1 : List UInt8) =>
      obind (ref01_sign x_1) fun (x_2 : List UInt8 × Bool) =>
        obind
          (loopE
            (fun (x_3 : List UInt8) =>
              bcond (ile (llen x_3) x) (obind (sadd [48] x_3) fun (x : List UInt8) => some (Sum.inl x))
                (some (Sum.inr x_3)))
            x_2.1)
          fun (y : List UInt8) =>
          obind (lsub y 0 (isub IntKind.i64 (llen y) x)) fun (x_3 : List UInt8) =>
            obind (sadd x_3 [46]) fun (x_4 : List UInt8) =>
              obind (lsub y (isub IntKind.i64 (llen y) x) (llen y)) fun (x : List UInt8) =>
                obind (sadd x_4 x) fun (x : List UInt8) =>
                  bcond x_2.2 (obind (sadd [45] x) fun (x : List UInt8) => some x) (some x))
def s57 : FSpec := ⟨ps57, [(false, (.dat .str))], [], fun x => ref01_FormatFixed x.1 x.2⟩
def ps69 : List MG := [(true, (.dat (.prod (.int .i64) (.int .i64)))), (false, (.dat (.sl (.prod .str (.sl .str)))))]
def rt69 : Ret := ⟨[(.tmp 4, (false, (.dat .bool)))], []⟩
def e69 : Env := ⟨31, eqs, tt, gl, []⟩
def an69 : Ann := .leaf
def ref09_ValidType (a0 : TType) (a1 : List TEnum) : Option Bool :=
  bcond (ieq a0.1 6) (bcond (ile 0 a0.2) (some (ilt a0.2 (llen a1))) (some false))
  (bcond (ile 1 a0.1) (bcond (ile a0.1 5) (some (ieq a0.2 0)) (some false)) (some false))
def s69 : FSpec := ⟨ps69, [(false, (.dat .bool))], [], fun x => ref09_ValidType x.1 x.2⟩
def ps70 : List MG := [(true, (.dat (.prod (.int .i64) (.prod (.int .i64) (.int .i64)))))]
def rt70 : Ret := ⟨[(.cell 2 59, (true, (.dat (.prod (.int .i64) (.int .i64)))))], []⟩
def e70 : Env := ⟨8, eqs, tt, gl, []⟩
def an70 : Ann := .leaf
def ref09_Type (a0 : TValue) : Option TType :=
  some (a0.1, a0.2.1)
def s70 : FSpec := ⟨ps70, [(true, (.dat (.prod (.int .i64) (.int .i64))))], [], fun x => ref09_Type x⟩
def ps99 : List MG := [(true, (.dat (.prod (.int .i64) (.int .i64)))), (false, (.dat (.sl (.prod .str (.sl .str)))))]
def rt99 : Ret := ⟨[(.tmp 4, (false, (.dat (.int .i64)))), (.tmp 5, (false, (.dat (.int .i64))))], []⟩
def e99 : Env := ⟨30, eqs, tt, gl, [(69, s69)]⟩
def an99 : Ann := .leaf
def ref09_Bounds (a0 : TType) (a1 : List TEnum) : Option TType :=
  obind (ref09_ValidType a0 a1) fun (x : Bool) =>
  bcond (bnot x) (some (0, -1))
    (bcond (ieq a0.1 1) (some (0, 1))
      (bcond (ieq a0.1 2) (some (-1000000000000, 1000000000000))
        (bcond (ieq a0.1 3) (some (-1000000000000000, 1000000000000000))
          (bcond (ieq a0.1 4) (some (-1000000000, 1000000000))
            (bcond (ieq a0.1 5) (some (0, 109572))
              (obind (lat a1 a0.2) fun (x : TEnum) => some (0, isub IntKind.i64 (llen x.2) 1)))))))
def s99 : FSpec := ⟨ps99, [(false, (.dat (.int .i64))), (false, (.dat (.int .i64)))], [], fun x => ref09_Bounds x.1 x.2⟩
def ps84 : List MG := [(false, (.dat (.int .i64))), (true, (.dat (.prod (.int .i64) (.int .i64)))), (false, (.dat (.sl (.prod .str (.sl .str)))))]
def rt84 : Ret := ⟨[(.tmp 6, (false, (.dat .bool)))], []⟩
def e84 : Env := ⟨23, eqs, tt, gl, [(99, s99)]⟩
def an84 : Ann := .leaf
def ref09_In (a0 : Int) (a1 : TType) (a2 : List TEnum) : Option Bool :=
  obind (ref09_Bounds a1 a2) fun (x : TType) => bcond (ile x.1 a0) (some (ile a0 x.2)) (some false)
def s84 : FSpec := ⟨ps84, [(false, (.dat .bool))], [], fun x => ref09_In x.1 x.2.1 x.2.2⟩
def ps71 : List MG := [(true, (.dat (.prod (.int .i64) (.prod (.int .i64) (.int .i64))))), (false, (.dat (.sl (.prod .str (.sl .str)))))]
def rt71 : Ret := ⟨[(.tmp 4, (false, (.dat .bool)))], []⟩
def e71 : Env := ⟨17, eqs, tt, gl, [(69, s69), (70, s70), (84, s84)]⟩
def an71 : Ann := .leaf
def ref09_Valid (a0 : TValue) (a1 : List TEnum) : Option Bool :=
  obind (ref09_Type a0) fun (x : TType) =>
  obind (ref09_ValidType x a1) fun (x : Bool) =>
    bcond x (obind (ref09_Type a0) fun (x : TType) => obind (ref09_In a0.2.2 x a1) fun (x : Bool) => some x)
      (some false)
def s71 : FSpec := ⟨ps71, [(false, (.dat .bool))], [], fun x => ref09_Valid x.1 x.2⟩
def ps85 : List MG := [(false, (.dat (.int .i64)))]
def rt85 : Ret := ⟨[(.tmp 2, (false, (.dat .bool)))], []⟩
def e85 : Env := ⟨9, eqs, tt, gl, []⟩
def an85 : Ann := .leaf
def ref04_Valid (a0 : Int) : Option Bool :=
  bcond (ile 0 a0) (some (ile a0 109572)) (some false)
def s85 : FSpec := ⟨ps85, [(false, (.dat .bool))], [], fun x => ref04_Valid x⟩
def ps111 : List MG := [(false, (.dat (.int .i64)))]
def rt111 : Ret := ⟨[(.tmp 2, (false, (.dat .bool)))], []⟩
def e111 : Env := ⟨16, eqs, tt, gl, []⟩
def an111 : Ann := .leaf
def ref04_IsLeap (a0 : Int) : Option Bool :=
  bcond (ieq (irem a0 4) 0) (bcond (bnot (ieq (irem a0 100) 0)) (some true) (some (ieq (irem a0 400) 0))) (some false)
def s111 : FSpec := ⟨ps111, [(false, (.dat .bool))], [], fun x => ref04_IsLeap x⟩
def ps100 : List MG := [(false, (.dat (.int .i64)))]
def rt100 : Ret := ⟨[(.tmp 2, (false, (.dat (.int .i64))))], []⟩
def e100 : Env := ⟨5, eqs, tt, gl, [(111, s111)]⟩
def an100 : Ann := .leaf
def ref04_daysInYear (a0 : Int) : Option Int :=
  obind (ref04_IsLeap a0) fun (x : Bool) => bcond x (some 366) (some 365)
def s100 : FSpec := ⟨ps100, [(false, (.dat (.int .i64)))], [], fun x => ref04_daysInYear x⟩
def ps101 : List MG := [(false, (.dat (.int .i64))), (false, (.dat (.int .i64)))]
def rt101 : Ret := ⟨[(.tmp 4, (false, (.dat (.int .i64))))], []⟩
def e101 : Env := ⟨23, eqs, tt, gl, [(111, s111)]⟩
def an101 : Ann := .seq (.leaf) (.seq (.seq (.leaf) (.blk (.seq (.leaf) (.cond (.leaf) (.seq (.join [(10, 15)] [(10, (false, (.dat .bool)))] (.leaf)) (.leaf)))))) (.leaf))
def ref04_DaysInMonth (a0 : Int) (a1 : Int) : Option Int :=
  bcond (ieq a1 2) (obind (ref04_IsLeap a0) fun (x : Bool) => bcond x (some 29) (some 28))
  (obind
    (bcond (ieq a1 4) (some (ieq a1 4))
      (bcond (ieq a1 6) (some (ieq a1 6)) (bcond (ieq a1 9) (some (ieq a1 9)) (some (ieq a1 11)))))
    fun (x : Bool) =>
    bcond x (some 30)
      (bcond (ieq a1 1) (bcond (ieq a1 1) (some 31) (some 0))
        (bcond (ieq a1 3) (bcond (ieq a1 3) (some 31) (some 0))
          (bcond (ieq a1 5) (bcond (ieq a1 5) (some 31) (some 0))
            (bcond (ieq a1 7) (bcond (ieq a1 7) (some 31) (some 0))
              (bcond (ieq a1 8) (bcond (ieq a1 8) (some 31) (some 0))
                (bcond (ieq a1 10) (bcond (ieq a1 10) (some 31) (some 0)) (bcond (ieq a1 12) (some 31) (some 0)))))))))
def s101 : FSpec := ⟨ps101, [(false, (.dat (.int .i64)))], [], fun x => ref04_DaysInMonth x.1 x.2⟩
def ps86 : List MG := [(false, (.dat (.int .i64)))]
def rt86 : Ret := ⟨[(.tmp 2, (false, (.dat (.int .i64)))), (.tmp 3, (false, (.dat (.int .i64)))), (.tmp 4, (false, (.dat (.int .i64))))], []⟩
def e86 : Env := ⟨36, eqs, tt, gl, [(85, s85), (100, s100), (101, s101)]⟩
def an86 : Ann := .seq (.leaf) (.seq (.leaf) (.seq (.leaf) (.seq (.blk (.loop [(0, 1), (5, 6), (10, 20)] [(0, (false, (.dat (.int .i64)))), (5, (false, (.dat (.int .i64))))] 0 [(0, (false, (.dat (.int .i64)))), (5, (false, (.dat (.int .i64))))] (.leaf))) (.seq (.blk (.loop [(0, 1), (6, 7), (20, 32)] [(0, (false, (.dat (.int .i64)))), (6, (false, (.dat (.int .i64))))] 2 [(0, (false, (.dat (.int .i64)))), (6, (false, (.dat (.int .i64))))] (.leaf))) (.leaf)))))
def ref04_ToYMD (a0 : Int) : Option TValue :=
  obind (ref04_Valid a0) fun (x : Bool) =>
  bcond (bnot x) (some (0, 0, 0))
    (obind
      (loopE
        (fun (x : TType) =>
          obind (ref04_daysInYear x.2) fun (x_1 : Int) =>
            bcond (ile x_1 x.1)
              (obind (ref04_daysInYear x.2) fun (x_2 : Int) =>
                some (Sum.inl (isub IntKind.i64 x.1 x_2, iadd IntKind.i64 x.2 1)))
              (some (Sum.inr x)))
        (a0, 1900))
      fun (y : TType) =>
      obind
        (loopE
          (fun (x : TType) =>
            obind (ref04_DaysInMonth y.2 x.2) fun (x_1 : Int) =>
              bcond (ile x_1 x.1)
                (obind (ref04_DaysInMonth y.2 x.2) fun (x_2 : Int) =>
                  some (Sum.inl (isub IntKind.i64 x.1 x_2, iadd IntKind.i64 x.2 1)))
                (some (Sum.inr x)))
          (y.1, 1))
        fun (y_1 : TType) => some (y.2, y_1.2, iadd IntKind.i64 y_1.1 1))
def s86 : FSpec := ⟨ps86, [(false, (.dat (.int .i64))), (false, (.dat (.int .i64))), (false, (.dat (.int .i64)))], [], fun x => ref04_ToYMD x⟩
def ps87 : List MG := [(false, (.dat (.int .i64))), (false, (.dat (.int .i64)))]
def rt87 : Ret := ⟨[(.tmp 4, (false, (.dat .str)))], []⟩
def e87 : Env := ⟨15, eqs, tt, gl, [(30, s30)]⟩
def an87 : Ann := .seq (.leaf) (.seq (.leaf) (.seq (.blk (.loop [(5, 6), (8, 14)] [(5, (false, (.dat .str)))] 0 [(5, (false, (.dat .str)))] (.leaf))) (.leaf)))
def ref04_pad (a0 : Int) (a1 : Int) : Option (List UInt8) :=
  obind (ref01_FormatInt a0) fun (x : List UInt8) =>
  obind
    (loopE
      (fun (x : List UInt8) =>
        bcond (ilt (llen x) a1) (obind (sadd [48] x) fun (x : List UInt8) => some (Sum.inl x)) (some (Sum.inr x)))
      x)
    fun (y : List UInt8) => some y
def s87 : FSpec := ⟨ps87, [(false, (.dat .str))], [], fun x => ref04_pad x.1 x.2⟩
def ps72 : List MG := [(false, (.dat (.int .i64)))]
def rt72 : Ret := ⟨[(.tmp 2, (false, (.dat .str)))], []⟩
def e72 : Env := ⟨25, eqs, tt, gl, [(85, s85), (86, s86), (87, s87)]⟩
def an72 : Ann := .leaf
def ref04_Format (a0 : Int) : Option (List UInt8) :=
  obind (ref04_Valid a0) fun (x : Bool) =>
  bcond (bnot x) (some [])
    (obind (ref04_ToYMD a0) fun (x : TValue) =>
      obind (ref04_pad x.1 4) fun (x_1 : List UInt8) =>
        obind (sadd x_1 [45]) fun (x_2 : List UInt8) =>
          obind (ref04_pad x.2.1 2) fun (x_3 : List UInt8) =>
            obind (sadd x_2 x_3) fun (x_4 : List UInt8) =>
              obind (sadd x_4 [45]) fun (x_5 : List UInt8) =>
                obind (ref04_pad x.2.2 2) fun (x : List UInt8) => obind (sadd x_5 x) fun (x : List UInt8) => some x)
def s72 : FSpec := ⟨ps72, [(false, (.dat .str))], [], fun x => ref04_Format x⟩
def ps59 : List MG := [(true, (.dat (.prod (.int .i64) (.prod (.int .i64) (.int .i64))))), (false, (.dat (.sl (.prod .str (.sl .str)))))]
def rt59 : Ret := ⟨[(.tmp 4, (false, (.dat .str))), (.tmp 5, (false, (.dat (.int .i64))))], []⟩
def e59 : Env := ⟨53, eqs, tt, gl, [(30, s30), (57, s57), (69, s69), (70, s70), (71, s71), (72, s72)]⟩
def an59 : Ann := .leaf
def ref09_Format (a0 : TValue) (a1 : List TEnum) : Option (List UInt8 × Int) :=
  obind (ref09_Type a0) fun (x : TType) =>
  obind (ref09_ValidType x a1) fun (x : Bool) =>
    bcond (bnot x) (some ([], 8))
      (obind (ref09_Valid a0 a1) fun (x : Bool) =>
        bcond (bnot x) (some ([], 3))
          (bcond (ieq a0.1 1)
            (bcond (ieq a0.2.2 0) (some ([102, 97, 108, 115, 101], 0)) (some ([116, 114, 117, 101], 0)))
            (bcond (ieq a0.1 2) (obind (ref01_FormatInt a0.2.2) fun (x : List UInt8) => some (x, 0))
              (bcond (ieq a0.1 3) (obind (ref01_FormatFixed a0.2.2 2) fun (x : List UInt8) => some (x, 0))
                (bcond (ieq a0.1 4)
                  (obind (ref01_FormatFixed a0.2.2 4) fun (x : List UInt8) =>
                    obind (sadd x [37]) fun (x : List UInt8) => some (x, 0))
                  (bcond (ieq a0.1 5) (obind (ref04_Format a0.2.2) fun (x : List UInt8) => some (x, 0))
                    (obind (lat a1 a0.2.1) fun (x : TEnum) =>
                      obind (lat x.2 a0.2.2) fun (x : List UInt8) => some (x, 0))))))))
def s59 : FSpec := ⟨ps59, [(false, (.dat .str)), (false, (.dat (.int .i64)))], [], fun x => ref09_Format x.1 x.2⟩
def ps50 : List MG := [(true, (.dat (.prod (.int .i64) (.prod (.int .i64) (.int .i64))))), (false, (.dat (.sl (.prod .str (.sl .str)))))]
def rt50 : Ret := ⟨[(.tmp 4, (false, (.dat .str)))], []⟩
def e50 : Env := ⟨16, eqs, tt, gl, [(59, s59)]⟩
def an50 : Ann := .leaf
def ref54_valueText (a0 : TValue) (a1 : List TEnum) : Option (List UInt8) :=
  obind (ref09_Format a0 a1) fun (x : List UInt8 × Int) => bcond (bnot (ieq x.2 0)) (some [63]) (some x.1)
def s50 : FSpec := ⟨ps50, [(false, (.dat .str))], [], fun x => ref54_valueText x.1 x.2⟩
def ps29 : List MG := [(false, (.own .str)), (false, (.dat .str)), (true, (.dat (.prod (.sl (.prod .str (.sl .str))) (.prod (.sl (.prod .str (.prod (.prod (.int .i64) (.int .i64)) (.prod (.prod (.int .i64) (.int .i64)) (.sl (.prod (.prod (.int .i64) (.int .i64)) (.prod (.int .i64) (.prod (.int .i64) (.int .i64))))))))) (.sl (.prod .str (.prod (.int .i64) (.prod (.sl (.prod .str (.prod (.int .i64) (.int .i64)))) (.prod (.sl (.prod .str (.prod (.int .i64) (.int .i64)))) (.sl (.prod .str (.prod (.int .i64) (.prod (.int .i64) (.prod (.int .i64) (.prod (.prod (.int .i64) (.int .i64)) (.prod (.sl (.prod (.int .i64) (.int .i64))) (.prod (.sl (.prod (.int .i64) (.int .i64))) .str))))))))))))))))), (true, (.dat (.prod .str (.prod (.int .i64) (.prod (.sl (.prod .str (.prod (.int .i64) (.int .i64)))) (.prod (.sl (.prod .str (.prod (.int .i64) (.int .i64)))) (.sl (.prod .str (.prod (.int .i64) (.prod (.int .i64) (.prod (.int .i64) (.prod (.prod (.int .i64) (.int .i64)) (.prod (.sl (.prod (.int .i64) (.int .i64))) (.prod (.sl (.prod (.int .i64) (.int .i64))) .str)))))))))))))), (false, (.dat (.sl (.prod (.int .i64) (.prod (.int .i64) (.int .i64)))))), (false, (.dat (.sl (.int .i64))))]
def rt29 : Ret := ⟨[(.tmp 12, (false, (.own .str)))], []⟩
def e29 : Env := ⟨52, eqs, tt, gl, [(33, s33), (34, s34), (50, s50)]⟩
def an29 : Ann := .seq (.leaf) (.seq (.seq (.leaf) (.blk (.loop [(0, 1), (13, 51), (1000000, 1000001)] [(0, (false, (.own .str))), (13, (false, (.dat (.int .i64))))] 0 [(0, (false, (.own .str)))] (.leaf)))) (.leaf))
def ref54_lines (a0 : List (List UInt8)) (a1 : List UInt8) (a2 : TLaw) (a3 : TScope) (a4 : List TValue) (a5 : List Int) : Option (List (List UInt8)) :=
  obind
  (loopE
    (fun (x : List (List UInt8) × Int) =>
      bcond (ilt x.2 (llen a4))
        (bcond (ilt x.2 (llen a5))
          (obind (lat a5 x.2) fun (x_1 : Int) =>
            obind (ref54_defName a3 x.2) fun (x_2 : List UInt8) =>
              obind (sadd a1 x_2) fun (x_3 : List UInt8) =>
                obind (sadd x_3 [32, 61, 32]) fun (x_4 : List UInt8) =>
                  obind (lat a4 x.2) fun (x_5 : TValue) =>
                    obind (ref54_valueText x_5 a2.1) fun (x_6 : List UInt8) =>
                      obind (sadd x_4 x_6) fun (x_7 : List UInt8) =>
                        obind (sadd x_7 [32, 98, 121, 32]) fun (x_8 : List UInt8) =>
                          obind (ref54_ruleName a3 x_1) fun (x_9 : List UInt8) =>
                            obind (sadd x_8 x_9) fun (x_10 : List UInt8) =>
                              obind (lapp x.1 [x_10]) fun (x_11 : List (List UInt8)) =>
                                some (Sum.inl (x_11, iadd IntKind.i64 x.2 1)))
          (obind (ref54_defName a3 x.2) fun (x_1 : List UInt8) =>
            obind (sadd a1 x_1) fun (x_2 : List UInt8) =>
              obind (sadd x_2 [32, 61, 32]) fun (x_3 : List UInt8) =>
                obind (lat a4 x.2) fun (x_4 : TValue) =>
                  obind (ref54_valueText x_4 a2.1) fun (x_5 : List UInt8) =>
                    obind (sadd x_3 x_5) fun (x_6 : List UInt8) =>
                      obind (sadd x_6 [32, 98, 121, 32]) fun (x_7 : List UInt8) =>
                        obind (ref54_ruleName a3 (-1)) fun (x_8 : List UInt8) =>
                          obind (sadd x_7 x_8) fun (x_9 : List UInt8) =>
                            obind (lapp x.1 [x_9]) fun (x_10 : List (List UInt8)) =>
                              some (Sum.inl (x_10, iadd IntKind.i64 x.2 1))))
        (some (Sum.inr x.1)))
    (a0, 0))
  fun (y : List (List UInt8)) => some y
def s29 : FSpec := ⟨ps29, [(false, (.own .str))], [], fun x => ref54_lines x.1 x.2.1 x.2.2.1 x.2.2.2.1 x.2.2.2.2.1 x.2.2.2.2.2⟩
def ps12 : List MG := [(true, (.dat (.prod (.sl (.prod .str (.sl .str))) (.prod (.sl (.prod .str (.prod (.prod (.int .i64) (.int .i64)) (.prod (.prod (.int .i64) (.int .i64)) (.sl (.prod (.prod (.int .i64) (.int .i64)) (.prod (.int .i64) (.prod (.int .i64) (.int .i64))))))))) (.sl (.prod .str (.prod (.int .i64) (.prod (.sl (.prod .str (.prod (.int .i64) (.int .i64)))) (.prod (.sl (.prod .str (.prod (.int .i64) (.int .i64)))) (.sl (.prod .str (.prod (.int .i64) (.prod (.int .i64) (.prod (.int .i64) (.prod (.prod (.int .i64) (.int .i64)) (.prod (.sl (.prod (.int .i64) (.int .i64))) (.prod (.sl (.prod (.int .i64) (.int .i64))) .str))))))))))))))))), (false, (.dat (.int .i64))), (true, (.dat (.prod (.sl (.prod (.int .i64) (.prod (.int .i64) (.int .i64)))) (.prod (.sl (.int .i64)) (.sl (.prod (.sl (.prod (.int .i64) (.prod (.int .i64) (.int .i64)))) (.sl (.int .i64))))))))]
def rt12 : Ret := ⟨[(.tmp 6, (false, (.own .str)))], []⟩
def e12 : Env := ⟨51, eqs, tt, gl, [(28, s28), (29, s29), (30, s30)]⟩
def an12 : Ann := .seq (.leaf) (.seq (.leaf) (.seq (.leaf) (.seq (.seq (.leaf) (.blk (.loop [(8, 10), (20, 50), (10001216, 10001217)] [(8, (false, (.own .str))), (9, (false, (.dat (.int .i64))))] 0 [(8, (false, (.own .str)))] (.leaf)))) (.leaf))))
def ref54_Result (a0 : TLaw) (a1 : Int) (a2 : TResult) : Option (List (List UInt8)) :=
  obind (ref54_scopeAt a0 a1) fun (x : TScope) =>
  obind (ref54_lines [] [] a0 x a2.1 a2.2.1) fun (x_1 : List (List UInt8)) =>
    obind
      (loopE
        (fun (x_2 : List (List UInt8) × Int) =>
          bcond (ilt x_2.2 (llen a2.2.2))
            (obind (ref01_FormatInt x_2.2) fun (x_3 : List UInt8) =>
              obind (sadd [109, 101, 109, 98, 101, 114, 32] x_3) fun (x_4 : List UInt8) =>
                obind (sadd x_4 [58, 32]) fun (x_5 : List UInt8) =>
                  obind (ref54_scopeAt a0 x.2.1) fun (x : TScope) =>
                    obind (lat a2.2.2 x_2.2) fun (x_6 : TMemberResult) =>
                      obind (lat a2.2.2 x_2.2) fun (x_7 : TMemberResult) =>
                        obind (ref54_lines x_2.1 x_5 a0 x x_6.1 x_7.2) fun (x : List (List UInt8)) =>
                          some (Sum.inl (x, iadd IntKind.i64 x_2.2 1)))
            (some (Sum.inr x_2.1)))
        (x_1, 0))
      fun (y : List (List UInt8)) => some y
def s12 : FSpec := ⟨ps12, [(false, (.own .str))], [], fun x => ref54_Result x.1 x.2.1 x.2.2⟩
def ps3 : List MG := [(true, (.dat (.prod (.sl (.prod .str (.sl .str))) (.prod (.sl (.prod .str (.prod (.prod (.int .i64) (.int .i64)) (.prod (.prod (.int .i64) (.int .i64)) (.sl (.prod (.prod (.int .i64) (.int .i64)) (.prod (.int .i64) (.prod (.int .i64) (.int .i64))))))))) (.sl (.prod .str (.prod (.int .i64) (.prod (.sl (.prod .str (.prod (.int .i64) (.int .i64)))) (.prod (.sl (.prod .str (.prod (.int .i64) (.int .i64)))) (.sl (.prod .str (.prod (.int .i64) (.prod (.int .i64) (.prod (.int .i64) (.prod (.prod (.int .i64) (.int .i64)) (.prod (.sl (.prod (.int .i64) (.int .i64))) (.prod (.sl (.prod (.int .i64) (.int .i64))) .str))))))))))))))))), (false, (.dat (.int .i64))), (true, (.dat (.prod (.sl (.prod (.int .i64) (.prod (.int .i64) (.int .i64)))) (.prod (.sl (.int .i64)) (.sl (.prod (.sl (.prod (.int .i64) (.prod (.int .i64) (.int .i64)))) (.sl (.int .i64))))))))]
def rt3 : Ret := ⟨[(.tmp 6, (false, (.dat .bool)))], []⟩
def e3 : Env := ⟨28, eqs, tt, gl, [(7, s7), (8, s8), (9, s9), (10, s10), (11, s11), (12, s12)]⟩
def an3 : Ann := .leaf
def law54_ReportResult (a0 : TLaw) (a1 : Int) (a2 : TResult) : Option Bool :=
  obind (same_SmallLaw a0) fun (x : Bool) =>
  bcond (bnot x) (obind law54_awake fun (x : Bool) => some x)
    (obind (law54_few a2) fun (x : Bool) =>
      bcond (bnot x) (obind law54_awake fun (x : Bool) => some x)
        (obind (report_Result a0 a1 a2) fun (x : List (List UInt8)) =>
          obind (ref54_Result a0 a1 a2) fun (x_1 : List (List UInt8)) =>
            obind (same_Strings x x_1) fun (x : Bool) =>
              bcond x (obind law54_awake fun (x : Bool) => some x) (some false)))
def s3 : FSpec := ⟨ps3, [(false, (.dat .bool))], [], fun x => law54_ReportResult x.1 x.2.1 x.2.2⟩
def ps14 : List MG := [(true, (.dat (.prod (.sl (.prod .str (.sl .str))) (.prod (.sl (.prod .str (.prod (.prod (.int .i64) (.int .i64)) (.prod (.prod (.int .i64) (.int .i64)) (.sl (.prod (.prod (.int .i64) (.int .i64)) (.prod (.int .i64) (.prod (.int .i64) (.int .i64))))))))) (.sl (.prod .str (.prod (.int .i64) (.prod (.sl (.prod .str (.prod (.int .i64) (.int .i64)))) (.prod (.sl (.prod .str (.prod (.int .i64) (.int .i64)))) (.sl (.prod .str (.prod (.int .i64) (.prod (.int .i64) (.prod (.int .i64) (.prod (.prod (.int .i64) (.int .i64)) (.prod (.sl (.prod (.int .i64) (.int .i64))) (.prod (.sl (.prod (.int .i64) (.int .i64))) .str))))))))))))))))), (false, (.dat (.int .i64))), (true, (.dat (.prod (.int .i64) (.prod (.int .i64) (.prod (.int .i64) (.int .i64))))))]
def rt14 : Ret := ⟨[(.tmp 6, (false, (.dat .str)))], []⟩
def e14 : Env := ⟨53, eqs, tt, gl, [(28, s28), (30, s30), (33, s33), (34, s34)]⟩
def an14 : Ann := .leaf
def ref54_EvalError (a0 : TLaw) (a1 : Int) (a2 : TEvalError) : Option (List UInt8) :=
  bcond (ieq a2.1 0) (some [111, 107])
  (obind (ref54_scopeAt a0 a1) fun (x : TScope) =>
    obind (ref01_FormatInt a2.1) fun (x_1 : List UInt8) =>
      obind (sadd [101, 114, 114, 111, 114, 32] x_1) fun (x_2 : List UInt8) =>
        bcond (ile 0 a2.2.1)
          (obind (ref54_scopeAt a0 x.2.1) fun (x : TScope) =>
            obind (sadd x_2 [32, 105, 110, 32, 109, 101, 109, 98, 101, 114, 32]) fun (x_3 : List UInt8) =>
              obind (ref01_FormatInt a2.2.1) fun (x_4 : List UInt8) =>
                obind (sadd x_3 x_4) fun (x_5 : List UInt8) =>
                  bcond (ile 0 a2.2.2.1)
                    (obind (sadd x_5 [32, 102, 111, 114, 32]) fun (x_6 : List UInt8) =>
                      obind (ref54_defName x a2.2.2.1) fun (x_7 : List UInt8) =>
                        obind (sadd x_6 x_7) fun (x_8 : List UInt8) =>
                          bcond (ile 0 a2.2.2.2)
                            (obind (sadd x_8 [32, 98, 121, 32]) fun (x_9 : List UInt8) =>
                              obind (ref54_ruleName x a2.2.2.2) fun (x : List UInt8) =>
                                obind (sadd x_9 x) fun (x : List UInt8) => some x)
                            (some x_8))
                    (bcond (ile 0 a2.2.2.2)
                      (obind (sadd x_5 [32, 98, 121, 32]) fun (x_6 : List UInt8) =>
                        obind (ref54_ruleName x a2.2.2.2) fun (x : List UInt8) =>
                          obind (sadd x_6 x) fun (x : List UInt8) => some x)
                      (some x_5)))
          (bcond (ile 0 a2.2.2.1)
            (obind (sadd x_2 [32, 102, 111, 114, 32]) fun (x_3 : List UInt8) =>
              obind (ref54_defName x a2.2.2.1) fun (x_4 : List UInt8) =>
                obind (sadd x_3 x_4) fun (x_5 : List UInt8) =>
                  bcond (ile 0 a2.2.2.2)
                    (obind (sadd x_5 [32, 98, 121, 32]) fun (x_6 : List UInt8) =>
                      obind (ref54_ruleName x a2.2.2.2) fun (x : List UInt8) =>
                        obind (sadd x_6 x) fun (x : List UInt8) => some x)
                    (some x_5))
            (bcond (ile 0 a2.2.2.2)
              (obind (sadd x_2 [32, 98, 121, 32]) fun (x_3 : List UInt8) =>
                obind (ref54_ruleName x a2.2.2.2) fun (x : List UInt8) =>
                  obind (sadd x_3 x) fun (x : List UInt8) => some x)
              (some x_2))))
def s14 : FSpec := ⟨ps14, [(false, (.dat .str))], [], fun x => ref54_EvalError x.1 x.2.1 x.2.2⟩
def ps4 : List MG := [(true, (.dat (.prod (.sl (.prod .str (.sl .str))) (.prod (.sl (.prod .str (.prod (.prod (.int .i64) (.int .i64)) (.prod (.prod (.int .i64) (.int .i64)) (.sl (.prod (.prod (.int .i64) (.int .i64)) (.prod (.int .i64) (.prod (.int .i64) (.int .i64))))))))) (.sl (.prod .str (.prod (.int .i64) (.prod (.sl (.prod .str (.prod (.int .i64) (.int .i64)))) (.prod (.sl (.prod .str (.prod (.int .i64) (.int .i64)))) (.sl (.prod .str (.prod (.int .i64) (.prod (.int .i64) (.prod (.int .i64) (.prod (.prod (.int .i64) (.int .i64)) (.prod (.sl (.prod (.int .i64) (.int .i64))) (.prod (.sl (.prod (.int .i64) (.int .i64))) .str))))))))))))))))), (false, (.dat (.int .i64))), (true, (.dat (.prod (.int .i64) (.prod (.int .i64) (.prod (.int .i64) (.int .i64))))))]
def rt4 : Ret := ⟨[(.tmp 6, (false, (.dat .bool)))], []⟩
def e4 : Env := ⟨23, eqs, tt, gl, [(7, s7), (9, s9), (13, s13), (14, s14)]⟩
def an4 : Ann := .leaf
def law54_ReportEvalError (a0 : TLaw) (a1 : Int) (a2 : TEvalError) : Option Bool :=
  obind (same_SmallLaw a0) fun (x : Bool) =>
  bcond (bnot x) (obind law54_awake fun (x : Bool) => some x)
    (obind (report_EvalError a0 a1 a2) fun (x : List UInt8) =>
      obind (ref54_EvalError a0 a1 a2) fun (x_1 : List UInt8) =>
        bcond (seq x x_1) (obind law54_awake fun (x : Bool) => some x) (some false))
def s4 : FSpec := ⟨ps4, [(false, (.dat .bool))], [], fun x => law54_ReportEvalError x.1 x.2.1 x.2.2⟩
def ps15 : List MG := [(true, (.dat (.prod (.int .i64) (.prod (.int .i64) (.prod (.int .i64) (.int .i64)))))), (false, (.dat (.int .i64)))]
def rt15 : Ret := ⟨[(.tmp 4, (false, (.dat .bool)))], []⟩
def e15 : Env := ⟨42, eqs, tt, gl, []⟩
def an15 : Ann := .leaf
def ref38_Within (a0 : TEvalError) (a1 : Int) : Option Bool :=
  bcond (ile (isub IntKind.i64 0 a1) a0.2.1)
  (bcond (ile a0.2.1 a1)
    (bcond (ile (isub IntKind.i64 0 a1) a0.2.2.1)
      (bcond (ile a0.2.2.1 a1) (bcond (ile (isub IntKind.i64 0 a1) a0.2.2.2) (some (ile a0.2.2.2 a1)) (some false))
        (some false))
      (some false))
    (some false))
  (some false)
def s15 : FSpec := ⟨ps15, [(false, (.dat .bool))], [], fun x => ref38_Within x.1 x.2⟩
def ps65 : List MG := [(false, (.dat (.int .i64)))]
def rt65 : Ret := ⟨[(.tmp 2, (false, (.dat .bool)))], []⟩
def e65 : Env := ⟨9, eqs, tt, gl, []⟩
def an65 : Ann := .leaf
def ref07_valid (a0 : Int) : Option Bool :=
  bcond (ile 0 a0) (some (ile a0 3599)) (some false)
def s65 : FSpec := ⟨ps65, [(false, (.dat .bool))], [], fun x => ref07_valid x⟩
def ps56 : List MG := [(false, (.dat (.int .i64)))]
def rt56 : Ret := ⟨[(.tmp 2, (false, (.dat .str)))], []⟩
def e56 : Env := ⟨23, eqs, tt, gl, [(30, s30), (65, s65)]⟩
def an56 : Ann := .leaf
def ref07_Format (a0 : Int) : Option (List UInt8) :=
  obind (ref07_valid a0) fun (x : Bool) =>
  bcond (bnot x) (some [])
    (obind (ref01_FormatInt (iadd IntKind.i64 (irem a0 12) 1)) fun (x : List UInt8) =>
      bcond (ilt (llen x) 2)
        (obind (sadd [48] x) fun (x : List UInt8) =>
          obind (ref01_FormatInt (iadd IntKind.i64 1900 (iquo IntKind.i64 a0 12))) fun (x_1 : List UInt8) =>
            obind (sadd x_1 [45]) fun (x_2 : List UInt8) => obind (sadd x_2 x) fun (x : List UInt8) => some x)
        (obind (ref01_FormatInt (iadd IntKind.i64 1900 (iquo IntKind.i64 a0 12))) fun (x_1 : List UInt8) =>
          obind (sadd x_1 [45]) fun (x_2 : List UInt8) => obind (sadd x_2 x) fun (x : List UInt8) => some x))
def s56 : FSpec := ⟨ps56, [(false, (.dat .str))], [], fun x => ref07_Format x⟩
def ps39 : List MG := [(false, (.dat (.int .i64)))]
def rt39 : Ret := ⟨[(.tmp 2, (false, (.dat .str)))], []⟩
def e39 : Env := ⟨9, eqs, tt, gl, [(56, s56)]⟩
def an39 : Ann := .leaf
def ref54_monthText (a0 : Int) : Option (List UInt8) :=
  obind (ref07_Format a0) fun (x : List UInt8) => bcond (seq x []) (some [63]) (some x)
def s39 : FSpec := ⟨ps39, [(false, (.dat .str))], [], fun x => ref54_monthText x⟩
def ps40 : List MG := [(false, (.dat (.int .i64)))]
def rt40 : Ret := ⟨[(.tmp 2, (false, (.dat .str)))], []⟩
def e40 : Env := ⟨5, eqs, tt, gl, [(57, s57)]⟩
def an40 : Ann := .leaf
def ref54_amount (a0 : Int) : Option (List UInt8) :=
  obind (ref01_FormatFixed a0 2) fun (x : List UInt8) => some x
def s40 : FSpec := ⟨ps40, [(false, (.dat .str))], [], fun x => ref54_amount x⟩
def ps41 : List MG := [(true, (.dat (.prod (.int .i64) (.prod (.int .i64) (.prod (.int .i64) (.int .i64))))))]
def rt41 : Ret := ⟨[(.tmp 2, (false, (.dat (.int .i64))))], []⟩
def e41 : Env := ⟨9, eqs, tt, gl, []⟩
def an41 : Ann := .leaf
def ref38_Arrears (a0 : TEvalError) : Option Int :=
  some (imax (isub IntKind.i64 a0.2.1 a0.2.2.1) 0)
def s41 : FSpec := ⟨ps41, [(false, (.dat (.int .i64)))], [], fun x => ref38_Arrears x⟩
def ps42 : List MG := [(true, (.dat (.prod (.int .i64) (.prod (.int .i64) (.prod (.int .i64) (.int .i64))))))]
def rt42 : Ret := ⟨[(.tmp 2, (false, (.dat (.int .i64))))], []⟩
def e42 : Env := ⟨12, eqs, tt, gl, []⟩
def an42 : Ann := .leaf
def ref38_Overpayment (a0 : TEvalError) : Option Int :=
  some (imax (isub IntKind.i64 (isub IntKind.i64 a0.2.2.1 a0.2.1) a0.2.2.2) 0)
def s42 : FSpec := ⟨ps42, [(false, (.dat (.int .i64)))], [], fun x => ref38_Overpayment x⟩
def ps17 : List MG := [(false, (.dat (.sl (.prod (.int .i64) (.prod (.int .i64) (.prod (.int .i64) (.int .i64)))))))]
def rt17 : Ret := ⟨[(.tmp 2, (false, (.own .str)))], []⟩
def e17 : Env := ⟨48, eqs, tt, gl, [(39, s39), (40, s40), (41, s41), (42, s42)]⟩
def an17 : Ann := .seq (.leaf) (.seq (.leaf) (.seq (.seq (.leaf) (.blk (.loop [(3, 47)] [(3, (false, (.own .str))), (4, (false, (.dat (.int .i64))))] 0 [(3, (false, (.own .str)))] (.leaf)))) (.leaf)))
def ref54_Balances (a0 : List TEvalError) : Option (List (List UInt8)) :=
  obind
  (loopE
    (fun (x : List (List UInt8) × Int) =>
      bcond (ilt x.2 (llen a0))
        (obind (lat a0 x.2) fun (x_1 : TEvalError) =>
          obind (ref54_monthText x_1.1) fun (x_2 : List UInt8) =>
            obind (sadd x_2 [32, 100, 117, 101, 32]) fun (x_3 : List UInt8) =>
              obind (ref54_amount x_1.2.1) fun (x_4 : List UInt8) =>
                obind (sadd x_3 x_4) fun (x_5 : List UInt8) =>
                  obind (sadd x_5 [32, 114, 101, 99, 101, 105, 118, 101, 100, 32]) fun (x_6 : List UInt8) =>
                    obind (ref54_amount x_1.2.2.1) fun (x_7 : List UInt8) =>
                      obind (sadd x_6 x_7) fun (x_8 : List UInt8) =>
                        obind (sadd x_8 [32, 119, 97, 105, 118, 101, 100, 32]) fun (x_9 : List UInt8) =>
                          obind (ref54_amount x_1.2.2.2) fun (x_10 : List UInt8) =>
                            obind (sadd x_9 x_10) fun (x_11 : List UInt8) =>
                              obind (sadd x_11 [32, 97, 114, 114, 101, 97, 114, 115, 32]) fun (x_12 : List UInt8) =>
                                obind (ref38_Arrears x_1) fun (x_13 : Int) =>
                                  obind (ref54_amount x_13) fun (x_14 : List UInt8) =>
                                    obind (sadd x_12 x_14) fun (x_15 : List UInt8) =>
                                      obind (sadd x_15 [32, 111, 118, 101, 114, 112, 97, 121, 109, 101, 110, 116, 32])
                                        fun (x_16 : List UInt8) =>
                                        obind (ref38_Overpayment x_1) fun (x_17 : Int) =>
                                          obind (ref54_amount x_17) fun (x_18 : List UInt8) =>
                                            obind (sadd x_16 x_18) fun (x_19 : List UInt8) =>
                                              obind (lapp x.1 [x_19]) fun (x_20 : List (List UInt8)) =>
                                                some (Sum.inl (x_20, iadd IntKind.i64 x.2 1)))
        (some (Sum.inr x.1)))
    ([], 0))
  fun (y : List (List UInt8)) => some y
def s17 : FSpec := ⟨ps17, [(false, (.own .str))], [], fun x => ref54_Balances x⟩
def ps18 : List MG := [(false, (.dat .str))]
def rt18 : Ret := ⟨[(.tmp 2, (false, (.own .str)))], []⟩
def e18 : Env := ⟨50, eqs, tt, gl, []⟩
def an18 : Ann := .seq (.leaf) (.seq (.leaf) (.seq (.leaf) (.seq (.seq (.leaf) (.blk (.loop [(3, 7), (8, 49), (7000448, 7000449)] [(3, (false, (.own .str))), (4, (false, (.dat (.int .i64)))), (5, (false, (.dat (.int .i64))))] 0 [(3, (false, (.own .str)))] (.seq (.leaf) (.seq (.join [(3, 5), (6, 7), (14, 49), (17000000, 17000001)] [(3, (false, (.own .str))), (4, (false, (.dat (.int .i64))))] (.leaf)) (.leaf)))))) (.leaf))))
def ref01_Fields (a0 : List UInt8) : Option (List (List UInt8)) :=
  obind
  (loopE
    (fun (x : List (List UInt8) × TType) =>
      bcond (ile x.2.2 (llen a0))
        (obind
          (bcond (ieq x.2.2 (llen a0))
            (bcond (ile 0 x.2.1)
              (obind (lsub a0 x.2.1 x.2.2) fun (x_1 : List UInt8) =>
                obind (lapp x.1 [x_1]) fun (x_2 : List (List UInt8)) =>
                  bcond (bnot true) (bcond (ilt (-1) 0) (some (x_2, x.2.2)) (some (x_2, -1))) (some (x_2, -1)))
              (bcond (bnot true) (bcond (ilt x.2.1 0) (some (x.1, x.2.2)) (some (x.1, x.2.1))) (some (x.1, x.2.1))))
            (obind (sat a0 x.2.2) fun (x_1 : Int) =>
              bcond (ieq x_1 32)
                (bcond (ile 0 x.2.1)
                  (obind (lsub a0 x.2.1 x.2.2) fun (x_2 : List UInt8) =>
                    obind (lapp x.1 [x_2]) fun (x_3 : List (List UInt8)) =>
                      bcond (bnot true) (bcond (ilt (-1) 0) (some (x_3, x.2.2)) (some (x_3, -1))) (some (x_3, -1)))
                  (bcond (bnot true) (bcond (ilt x.2.1 0) (some (x.1, x.2.2)) (some (x.1, x.2.1))) (some (x.1, x.2.1))))
                (obind (sat a0 x.2.2) fun (x_2 : Int) =>
                  bcond (ieq x_2 9)
                    (bcond (ile 0 x.2.1)
                      (obind (lsub a0 x.2.1 x.2.2) fun (x_3 : List UInt8) =>
                        obind (lapp x.1 [x_3]) fun (x_4 : List (List UInt8)) =>
                          bcond (bnot (ieq x_2 9)) (bcond (ilt (-1) 0) (some (x_4, x.2.2)) (some (x_4, -1)))
                            (some (x_4, -1)))
                      (bcond (bnot (ieq x_2 9)) (bcond (ilt x.2.1 0) (some (x.1, x.2.2)) (some (x.1, x.2.1)))
                        (some (x.1, x.2.1))))
                    (bcond (bnot (ieq x_2 9)) (bcond (ilt x.2.1 0) (some (x.1, x.2.2)) (some (x.1, x.2.1)))
                      (some (x.1, x.2.1))))))
          fun (x_1 : List (List UInt8) × Int) => some (Sum.inl (x_1.1, x_1.2, iadd IntKind.i64 x.2.2 1)))
        (some (Sum.inr x.1)))
    ([], -1, 0))
  fun (y : List (List UInt8)) => some y
def s18 : FSpec := ⟨ps18, [(false, (.own .str))], [], fun x => ref01_Fields x⟩
def ps46 : List MG := [(false, (.dat .str))]
def rt46 : Ret := ⟨[(.tmp 2, (false, (.dat .bool)))], []⟩
def e46 : Env := ⟨23, eqs, tt, gl, []⟩
def an46 : Ann := .seq (.leaf) (.seq (.seq (.leaf) (.blk (.loopR [(2, 20)] [(3, (false, (.dat (.int .i64))))] 0 [] (.leaf)))) (.leaf))
def ref01_allDigits (a0 : List UInt8) : Option Bool :=
  obind
  (loopO
    (fun (x : Int) =>
      bcond (ilt x (llen a0))
        (obind (sat a0 x) fun (x_1 : Int) =>
          bcond (ilt x_1 48) (some (Out.rt false))
            (obind (sat a0 x) fun (x_2 : Int) =>
              bcond (ilt 57 x_2) (some (Out.rt false)) (some (Out.nx (iadd IntKind.i64 x 1)))))
        (some (Out.ex PUnit.unit)))
    0)
  fun (o : PUnit ⊕ Bool) => sumK o (fun (y : PUnit) => some (ilt 0 (llen a0))) fun (r : Bool) => some r
def s46 : FSpec := ⟨ps46, [(false, (.dat .bool))], [], fun x => ref01_allDigits x⟩
def ps47 : List MG := [(false, (.dat .str)), (false, (.dat .bool))]
def rt47 : Ret := ⟨[(.tmp 4, (false, (.dat (.int .i64)))), (.tmp 5, (false, (.dat (.int .i64))))], []⟩
def e47 : Env := ⟨33, eqs, tt, gl, []⟩
def an47 : Ann := .seq (.leaf) (.seq (.leaf) (.seq (.leaf) (.seq (.seq (.leaf) (.blk (.loop [(6, 8), (11, 25)] [(6, (false, (.dat (.int .u64)))), (7, (false, (.dat (.int .i64))))] 0 [(6, (false, (.dat (.int .u64))))] (.leaf)))) (.leaf))))
def ref01_number (a0 : List UInt8) (a1 : Bool) : Option TType :=
  bcond (ilt 19 (llen a0)) (some (0, 3))
  (obind
    (loopE
      (fun (x : TType) =>
        bcond (ilt x.2 (llen a0))
          (obind (sat a0 x.2) fun (x_1 : Int) =>
            some
              (Sum.inl
                (iadd IntKind.u64 (imul IntKind.u64 10 x.1) (wrap IntKind.u64 (isub IntKind.u8 x_1 48)),
                  iadd IntKind.i64 x.2 1)))
          (some (Sum.inr x.1)))
      (0, 0))
    fun (y : Int) =>
    bcond (ilt 4611686018427387904 y) (some (0, 3))
      (bcond a1 (some (isub IntKind.i64 0 (wrap IntKind.i64 y), 0)) (some (wrap IntKind.i64 y, 0))))
def s47 : FSpec := ⟨ps47, [(false, (.dat (.int .i64))), (false, (.dat (.int .i64)))], [], fun x => ref01_number x.1 x.2⟩
def ps44 : List MG := [(false, (.dat .str))]
def rt44 : Ret := ⟨[(.tmp 2, (false, (.dat (.int .i64)))), (.tmp 3, (false, (.dat (.int .i64))))], []⟩
def e44 : Env := ⟨36, eqs, tt, gl, [(45, s45), (46, s46), (47, s47)]⟩
def an44 : Ann := .leaf
def ref01_ParseInt (a0 : List UInt8) : Option TType :=
  obind (ref01_sign a0) fun (x : List UInt8 × Bool) =>
  obind (ref01_allDigits x.1) fun (x_1 : Bool) =>
    bcond (bnot x_1) (some (0, 2))
      (bcond (ilt 1 (llen x.1))
        (obind (sat x.1 0) fun (x_2 : Int) =>
          bcond (ieq x_2 48) (some (0, 2))
            (bcond x.2 (bcond (seq x.1 [48]) (some (0, 2)) (obind (ref01_number x.1 x.2) fun (x : TType) => some x))
              (obind (ref01_number x.1 x.2) fun (x : TType) => some x)))
        (bcond x.2 (bcond (seq x.1 [48]) (some (0, 2)) (obind (ref01_number x.1 x.2) fun (x : TType) => some x))
          (obind (ref01_number x.1 x.2) fun (x : TType) => some x)))
def s44 : FSpec := ⟨ps44, [(false, (.dat (.int .i64))), (false, (.dat (.int .i64)))], [], fun x => ref01_ParseInt x⟩
def ps19 : List MG := [(false, (.dat .str)), (false, (.dat (.int .i64)))]
def rt19 : Ret := ⟨[(.tmp 4, (false, (.dat (.int .i64)))), (.tmp 5, (false, (.dat (.int .i64))))], []⟩
def e19 : Env := ⟨88, eqs, tt, gl, [(43, s43), (44, s44), (45, s45), (46, s46), (47, s47)]⟩
def an19 : Ann := .seq (.leaf) (.seq (.leaf) (.seq (.leaf) (.seq (.leaf) (.seq (.leaf) (.seq (.joinR [(4, 6), (28, 60)] [] (.leaf)) (.seq (.leaf) (.seq (.blk (.loop [(7, 8), (68, 78)] [(7, (false, (.dat .str)))] 0 [(7, (false, (.dat .str)))] (.leaf))) (.leaf))))))))
def ref01_ParseFixed (a0 : List UInt8) (a1 : Int) : Option TType :=
  obind (ref01_clamp a1) fun (x : Int) =>
  bcond (ieq x 0) (obind (ref01_ParseInt a0) fun (x : TType) => some x)
    (obind (ref01_sign a0) fun (x_1 : List UInt8 × Bool) =>
      obind
        (bcond (ilt (isub IntKind.i64 (isub IntKind.i64 (llen x_1.1) x) 1) 1) (some (Sum.inr (0, 2)))
          (obind (sat x_1.1 (isub IntKind.i64 (isub IntKind.i64 (llen x_1.1) x) 1)) fun (x_2 : Int) =>
            bcond (bnot (ieq x_2 46)) (some (Sum.inr (0, 2)))
              (obind (lsub x_1.1 0 (isub IntKind.i64 (isub IntKind.i64 (llen x_1.1) x) 1)) fun (x_3 : List UInt8) =>
                obind (ref01_allDigits x_3) fun (x_4 : Bool) =>
                  bcond (bnot x_4) (some (Sum.inr (0, 2)))
                    (obind
                      (lsub x_1.1 (iadd IntKind.i64 (isub IntKind.i64 (isub IntKind.i64 (llen x_1.1) x) 1) 1)
                        (llen x_1.1))
                      fun (x_5 : List UInt8) =>
                      obind (ref01_allDigits x_5) fun (x_6 : Bool) =>
                        bcond (bnot x_6) (some (Sum.inr (0, 2)))
                          (bcond (ilt 1 (isub IntKind.i64 (isub IntKind.i64 (llen x_1.1) x) 1))
                            (obind (sat x_1.1 0) fun (x : Int) =>
                              bcond (ieq x 48) (some (Sum.inr (0, 2))) (some (Sum.inl PUnit.unit)))
                            (some (Sum.inl PUnit.unit)))))))
        fun (o : PUnit ⊕ TType) =>
        sumK o
          (fun (x_2 : PUnit) =>
            obind (lsub x_1.1 0 (isub IntKind.i64 (isub IntKind.i64 (llen x_1.1) x) 1)) fun (x_3 : List UInt8) =>
              obind
                (lsub x_1.1 (iadd IntKind.i64 (isub IntKind.i64 (isub IntKind.i64 (llen x_1.1) x) 1) 1) (llen x_1.1))
                fun (x : List UInt8) =>
                obind (sadd x_3 x) fun (x : List UInt8) =>
                  obind
                    (loopE
                      (fun (x : List UInt8) =>
                        bcond (ilt 1 (llen x))
                          (obind (sat x 0) fun (x_4 : Int) =>
                            bcond (ieq x_4 48) (obind (lsub x 1 (llen x)) fun (x : List UInt8) => some (Sum.inl x))
                              (some (Sum.inr x)))
                          (some (Sum.inr x)))
                      x)
                    fun (y : List UInt8) =>
                    bcond x_1.2
                      (bcond (seq y [48]) (some (0, 2)) (obind (ref01_number y x_1.2) fun (x : TType) => some x))
                      (obind (ref01_number y x_1.2) fun (x : TType) => some x))
          fun (r : TType) => some r)
def s19 : FSpec := ⟨ps19, [(false, (.dat (.int .i64))), (false, (.dat (.int .i64)))], [], fun x => ref01_ParseFixed x.1 x.2⟩
def ps5 : List MG := [(false, (.dat (.sl (.prod (.int .i64) (.prod (.int .i64) (.prod (.int .i64) (.int .i64)))))))]
def rt5 : Ret := ⟨[(.tmp 2, (false, (.dat .bool)))], []⟩
def e5 : Env := ⟨110, eqs, tt, gl, [(9, s9), (10, s10), (15, s15), (16, s16), (17, s17), (18, s18), (19, s19)]⟩
def an5 : Ann := .seq (.leaf) (.seq (.leaf) (.seq (.seq (.leaf) (.blk (.loopR [(2, 4), (17, 30)] [(3, (false, (.dat (.int .i64))))] 0 [] (.leaf)))) (.seq (.leaf) (.seq (.leaf) (.seq (.seq (.leaf) (.blk (.loopR [(2, 3), (5, 13), (37, 109)] [(5, (false, (.dat (.int .i64))))] 2 [] (.leaf)))) (.leaf))))))
def law54_ReportBalances (a0 : List TEvalError) : Option Bool :=
  bcond (ilt 100 (llen a0)) (obind law54_awake fun (x : Bool) => some x)
  (obind
    (loopO
      (fun (x : Int) =>
        bcond (ilt x (llen a0))
          (obind (lat a0 x) fun (x_1 : TEvalError) =>
            obind (ref38_Within x_1 1152921504606846976) fun (x_2 : Bool) =>
              bcond (bnot x_2) (obind law54_awake fun (x : Bool) => some (Out.rt x))
                (some (Out.nx (iadd IntKind.i64 x 1))))
          (some (Out.ex PUnit.unit)))
      0)
    fun (o : PUnit ⊕ Bool) =>
    sumK o
      (fun (y : PUnit) =>
        obind (report_Balances a0) fun (x : List (List UInt8)) =>
          obind (ref54_Balances a0) fun (x_1 : List (List UInt8)) =>
            obind (same_Strings x x_1) fun (x_2 : Bool) =>
              bcond (bnot x_2) (some false)
                (obind
                  (loopO
                    (fun (x_3 : Int) =>
                      bcond (ilt x_3 (llen a0))
                        (obind (lat x x_3) fun (x_4 : List UInt8) =>
                          obind (lget x (toN x_3)) fun (x : List UInt8) =>
                            obind (ref01_Fields x) fun (x : List (List UInt8)) =>
                              bcond (bnot (ieq (llen x) 11)) (some (Out.rt false))
                                (obind (lat x 2) fun (x_5 : List UInt8) =>
                                  obind (lget x (toN 2)) fun (x_6 : List UInt8) =>
                                    obind (ref01_ParseFixed x_6 2) fun (x_7 : TType) =>
                                      obind (lat x 4) fun (x_8 : List UInt8) =>
                                        obind (lget x (toN 4)) fun (x_9 : List UInt8) =>
                                          obind (ref01_ParseFixed x_9 2) fun (x_10 : TType) =>
                                            obind (lat x 6) fun (x_11 : List UInt8) =>
                                              obind (lget x (toN 6)) fun (x : List UInt8) =>
                                                obind (ref01_ParseFixed x 2) fun (x : TType) =>
                                                  obind (lat a0 x_3) fun (x_12 : TEvalError) =>
                                                    bcond (bnot (ieq x_7.1 x_12.2.1)) (some (Out.rt false))
                                                      (obind (lat a0 x_3) fun (x_13 : TEvalError) =>
                                                        bcond (bnot (ieq x_10.1 x_13.2.2.1)) (some (Out.rt false))
                                                          (obind (lat a0 x_3) fun (x_14 : TEvalError) =>
                                                            bcond (bnot (ieq x.1 x_14.2.2.2)) (some (Out.rt false))
                                                              (bcond (bnot (ieq x_7.2 0)) (some (Out.rt false))
                                                                (bcond (bnot (ieq x_10.2 0)) (some (Out.rt false))
                                                                  (bcond (bnot (ieq x.2 0)) (some (Out.rt false))
                                                                    (some (Out.nx (iadd IntKind.i64 x_3 1))))))))))
                        (some (Out.ex PUnit.unit)))
                    0)
                  fun (o : PUnit ⊕ Bool) =>
                  sumK o (fun (y : PUnit) => obind law54_awake fun (x : Bool) => some x) fun (r : Bool) => some r))
      fun (r : Bool) => some r)
def s5 : FSpec := ⟨ps5, [(false, (.dat .bool))], [], fun x => law54_ReportBalances x⟩
def ps51 : List MG := [(false, (.dat (.int .i64)))]
def rt51 : Ret := ⟨[(.tmp 2, (false, (.dat .str)))], []⟩
def e51 : Env := ⟨12, eqs, tt, gl, []⟩
def an51 : Ann := .leaf
def ref54_kindText (a0 : Int) : Option (List UInt8) :=
  bcond (ieq a0 1) (some [112, 97, 121, 109, 101, 110, 116])
  (bcond (ieq a0 2) (some [114, 101, 99, 111, 118, 101, 114, 121])
    (bcond (ieq a0 3) (some [114, 101, 112, 97, 121, 109, 101, 110, 116])
      (bcond (ieq a0 4) (some [119, 97, 105, 118, 101, 114]) (some [63]))))
def s51 : FSpec := ⟨ps51, [(false, (.dat .str))], [], fun x => ref54_kindText x⟩
def ps21 : List MG := [(false, (.dat (.sl (.prod (.int .i64) (.prod (.int .i64) (.prod (.int .i64) (.int .i64)))))))]
def rt21 : Ret := ⟨[(.tmp 2, (false, (.own .str)))], []⟩
def e21 : Env := ⟨41, eqs, tt, gl, [(39, s39), (40, s40), (50, s50), (51, s51)]⟩
def an21 : Ann := .seq (.leaf) (.seq (.leaf) (.seq (.seq (.leaf) (.blk (.loop [(3, 40)] [(3, (false, (.own .str))), (4, (false, (.dat (.int .i64))))] 0 [(3, (false, (.own .str)))] (.leaf)))) (.leaf)))
def ref54_Postings (a0 : List TEvalError) : Option (List (List UInt8)) :=
  obind
  (loopE
    (fun (x : List (List UInt8) × Int) =>
      bcond (ilt x.2 (llen a0))
        (obind (lat a0 x.2) fun (x_1 : TEvalError) =>
          obind (ref54_valueText (5, 0, x_1.1) []) fun (x_2 : List UInt8) =>
            obind (sadd x_2 [32]) fun (x_3 : List UInt8) =>
              obind (ref54_monthText x_1.2.1) fun (x_4 : List UInt8) =>
                obind (sadd x_3 x_4) fun (x_5 : List UInt8) =>
                  obind (sadd x_5 [32]) fun (x_6 : List UInt8) =>
                    obind (ref54_kindText x_1.2.2.1) fun (x_7 : List UInt8) =>
                      obind (sadd x_6 x_7) fun (x_8 : List UInt8) =>
                        obind (sadd x_8 [32]) fun (x_9 : List UInt8) =>
                          obind (ref54_amount x_1.2.2.2) fun (x_10 : List UInt8) =>
                            obind (sadd x_9 x_10) fun (x_11 : List UInt8) =>
                              obind (lapp x.1 [x_11]) fun (x_12 : List (List UInt8)) =>
                                some (Sum.inl (x_12, iadd IntKind.i64 x.2 1)))
        (some (Sum.inr x.1)))
    ([], 0))
  fun (y : List (List UInt8)) => some y
def s21 : FSpec := ⟨ps21, [(false, (.own .str))], [], fun x => ref54_Postings x⟩
def ps6 : List MG := [(false, (.dat (.sl (.prod (.int .i64) (.prod (.int .i64) (.prod (.int .i64) (.int .i64)))))))]
def rt6 : Ret := ⟨[(.tmp 2, (false, (.dat .bool)))], []⟩
def e6 : Env := ⟨15, eqs, tt, gl, [(9, s9), (10, s10), (20, s20), (21, s21)]⟩
def an6 : Ann := .leaf
def law54_ReportPostings (a0 : List TEvalError) : Option Bool :=
  bcond (ilt 200 (llen a0)) (obind law54_awake fun (x : Bool) => some x)
  (obind (report_Postings a0) fun (x : List (List UInt8)) =>
    obind (ref54_Postings a0) fun (x_1 : List (List UInt8)) =>
      obind (same_Strings x x_1) fun (x : Bool) => bcond x (obind law54_awake fun (x : Bool) => some x) (some false))
def s6 : FSpec := ⟨ps6, [(false, (.dat .bool))], [], fun x => law54_ReportPostings x⟩
end
end Gt
