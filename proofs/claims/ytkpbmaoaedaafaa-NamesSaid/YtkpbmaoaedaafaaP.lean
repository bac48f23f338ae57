/- The paths of the temporaries. -/
import Derived.Test.YtkpbmaoaedaafaaA9
namespace Ax
def p0 : Pth := .e
def p1 : Pth := (.z .e)
def p2 : Pth := (.o .e)
def p3 : Pth := (.z (.z .e))
def p4 : Pth := (.o (.z .e))
def p5 : Pth := (.z (.o .e))
def p6 : Pth := (.o (.o .e))
def p7 : Pth := (.z (.z (.z .e)))
def p8 : Pth := (.o (.z (.z .e)))
def p9 : Pth := (.z (.o (.z .e)))
def p10 : Pth := (.o (.o (.z .e)))
def p11 : Pth := (.z (.z (.o .e)))
def p12 : Pth := (.o (.z (.o .e)))
def p13 : Pth := (.z (.o (.o .e)))
def p14 : Pth := (.o (.o (.o .e)))
def p15 : Pth := (.z (.z (.z (.z .e))))
def p16 : Pth := (.o (.z (.z (.z .e))))
def p17 : Pth := (.z (.o (.z (.z .e))))
def p18 : Pth := (.o (.o (.z (.z .e))))
def p19 : Pth := (.z (.z (.o (.z .e))))
def p20 : Pth := (.o (.z (.o (.z .e))))
def p21 : Pth := (.z (.o (.o (.z .e))))
def p22 : Pth := (.o (.o (.o (.z .e))))
def p23 : Pth := (.z (.z (.z (.o .e))))
def p24 : Pth := (.o (.z (.z (.o .e))))
def p25 : Pth := (.z (.o (.z (.o .e))))
def p26 : Pth := (.o (.o (.z (.o .e))))
def argPs : List Pth := [p0, p1, p2, p3, p4, p5, p6, p7, p8, p9, p10, p11, p12, p13, p14, p15]
end Ax
